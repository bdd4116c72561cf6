/- Printed by a program of the session. Conditions: none. (squeezed). -/
import Derived.Deep.RegionLaw
import Derived.Test.YticepodaobpdlaaVFnQueuesQFnQueuesx3
namespace Go.Proofs.Yticepodaobpdlaa.QFnQueues
set_option maxHeartbeats 8000000
set_option maxRecDepth 100000
open Go.RowKit Go.Proofs.YticepodaobpdlaaW.PrintWords Go.Proofs.YticepodaobpdlaaW.PrintLast Go.Proofs.YticepodaobpdlaaW.PrintMore Go.Proofs.Yticepodaobpdlaa.Open Go.Proofs.Yticepodaobpdlaa.Sq
attribute [local go_sem] max2_int min2_int max_two min_two max_three min_three max_four min_four   -- for this text's walks alone
attribute [local go_sem] isSome_set
set_option linter.unusedVariables false
set_option linter.unusedSimpArgs false

theorem a4_11 {P : Prop} (h : P := by injection e_ with e_; subst e_; exact Kd.R_base HO.out _ (by simp [Value.ownBlock])) : P := h
theorem a4_10 {P : Prop} (h : P := by injection e_ with e_; subst e_; exact .inl HG.out) : P := h
theorem a4_9 {P : Prop} (h : P := by repeat (first | (with_reducible first | exact HB.out | apply below_alloc | apply pw_below_drewN | apply below_drew1 | refine below_set ?_ (IsS53.ge HI282.out) | refine below_set ?_ GE278.out | refine below_set ?_ GE288.out) | exact HB.out)) : P := h
theorem a4_8 {P : Prop} (h : P := by repeat (first | (with_reducible first | exact HI282.out | apply IsS53.alloc | apply IsS53.drewN | apply IsS53.drew | apply IsS53.set_1 | apply IsS53.set_2 | refine IsS53.far ?_ NB282_278.out _ | refine IsS53.far ?_ NB282_288.out _) | exact HI282.out)) : P := h
theorem a4_7 {P : Prop} (h : P := by exact Nat.ne_of_lt (Nat.lt_of_lt_of_le (bl hw303_5) GW294.out)) : P := h
theorem a4_6 {P : Prop} (h : P := by exact Nat.ne_of_lt (Nat.lt_of_lt_of_le (bl hw303_4) GW294.out)) : P := h
theorem a4_5 {P : Prop} (h : P := by exact Nat.ne_of_lt (Nat.lt_of_lt_of_le (bl hw303_3) GW294.out)) : P := h
theorem a4_4 {P : Prop} (h : P := by exact Nat.ne_of_lt (Nat.lt_of_lt_of_le (bl hw303_2) GW294.out)) : P := h
theorem a4_3 {P : Prop} (h : P := by exact Nat.ne_of_lt (Nat.lt_of_lt_of_le (bl hw303_1) GW294.out)) : P := h
theorem a4_2 {P : Prop} (h : P := by exact Nat.ne_of_lt (Nat.lt_of_lt_of_le (bl hw303_0) GW294.out)) : P := h
theorem a4_1 {P : Prop} (h : P := by repeat (first | (with_reducible first | exact HI282.out | apply IsS53.alloc | apply IsS53.drewN | apply IsS53.drew | apply IsS53.set_1 | apply IsS53.set_2 | refine IsS53.far ?_ NB282_278.out _) | exact HI282.out)) : P := h
theorem a4_0 {P : Prop} (h : P := by repeat (first | (with_reducible first | exact HB.out | apply below_alloc | apply pw_below_drewN | apply below_drew1 | refine below_set ?_ (IsS53.ge HI282.out) | refine below_set ?_ GE278.out) | exact HB.out)) : P := h
def laws_contains.l0 : Nat → List Int → Int → Int → Option (Bool)
  | 0, _, _, _ => none
  | k + 1, x0, x1, x5 => if x5 < (x0.length : Int) then (if 0 ≤ x5 then (if (rd x0 x5) = x1 then (some true) else (laws_contains.l0 k x0 x1 (wrap64 (x5 + 1)))) else (none)) else (some false)
def laws_contains.f (k : Nat) (l0 : List Int) (a1 : Int) : Option (Bool) := laws_contains.l0 k l0 a1 0
theorem laws_contains.mono_l : ∀ k, (∀ y0 y1 y2, LeO (laws_contains.l0 k y0 y1 y2) (laws_contains.l0 (k + 1) y0 y1 y2))
  | 0 => fun _ _ _ r h => by simp [laws_contains.l0] at h
  | k + 1 => by
    have ih0 := laws_contains.mono_l k
    · intro y0 y1 y2
      unfold laws_contains.l0
      exact mo
theorem laws_contains.mono : ∀ a0 a1 k, LeO (laws_contains.f k a0 a1) (laws_contains.f (k + 1) a0 a1) := by
  intro a0 a1 k
  have ih0 := laws_contains.mono_l k
  unfold laws_contains.f
  exact mo
theorem laws_contains.calls (k : Nat) (A0 : Option Addr) (c0 : Nat) (l0 : List Int) (a1 : Int) (r : Bool) (w : World) (hr0 : Kd.C (Kd.int .i64) w A0 l0.length l0) (hc0 : l0.length ≤ c0) (h : laws_contains.f k l0 a1 = some r) :
    Calls Try.prog 9 #[.slice A0 l0.length c0, .int .i64 a1] w fun e w' => e = .returned (.bool r) ∧ Drawn0 w w' := by
 have HR0 := am hr0
 have HC0 := am hc0
 clear hr0 hc0
 have H := h; unfold laws_contains.f at H
 clear h
 have H' := am H
 clear H
 go_enter Try.func9, Try.ntmps9
 go_wp2
 go_loopg [5] k (fun kq v5 w' => ∃ (x5_1 : Int), v5 = .int .i64 x5_1 ∧ Aside0 (laws_contains.l0 kq l0 a1 x5_1 = some r) ∧ Aside0 (kq ≤ k) ∧ Drawn0 w w')
 case atStart => exact ⟨(0), sc, H', kk0, sd⟩
 case round =>
  clear H'
  obtain ⟨x5_1, rfl, HA, HK1, ⟨m1, rfl⟩⟩ := hrel
  cases gk with
  | zero => exact absurd HA.out (by simp [laws_contains.l0])
  | succ k1 =>
   have H := HA.out
   clear HA
   simp only [laws_contains.l0] at H
   obtain ⟨-, c3b0, H⟩ | ⟨-, c3b0, H⟩ := ic_ H
   ·obtain ⟨c4b0, H⟩ := id_ H
    obtain ⟨-, c5b0, c5b1, H⟩ | ⟨c5, c5b0, c5b1, H⟩ := ib_ H
    ·obtain rfl := Option.some.inj H
     have p277 : 0 ≤ (x5_1 : Int) := sa
     have q277 : x5_1 < (l0.length : Int) := sa
     obtain ⟨ad277, e277, hx277_0⟩ := Kd.at_int HR0.out x5_1 p277 q277
     cases e277
     replace p277 := eq_true p277
     replace q277 := eq_true q277
     go_wp2
     go_ret
     exact ⟨sc, sd⟩
    ·have H' := am H
     clear H
     have p277 : 0 ≤ (x5_1 : Int) := sa
     have q277 : x5_1 < (l0.length : Int) := sa
     obtain ⟨ad277, e277, hx277_0⟩ := Kd.at_int HR0.out x5_1 p277 q277
     cases e277
     replace p277 := eq_true p277
     replace q277 := eq_true q277
     go_wp2
     go_roundg k1
     case measure => have := HK1.out; omega
     case rel => exact ⟨(wrap64 (x5_1 + 1)), sc, H', kk1, sd⟩
   ·obtain rfl := Option.some.inj H
    go_wp2
    go_ret
    exact ⟨sc, sd⟩

def spec_DrawTakePacket.f (k : Nat) (l0 : List Int) : Option ((List (S28)) × Int) := (spec_l1New.f k l0).bind fun bt279 => ((spec_l24Queue.f k bt279.1 bt279.2.1 bt279.2.2).bind fun bt283 => ((spec_l1Below.f bt279.1 bt283.2.1 bt283.2.2 8).bind fun bt289 => (some (bt283.1, wrap64 (bt289.1 - 1)))))
theorem spec_DrawTakePacket.mono : ∀ a0 k, LeO (spec_DrawTakePacket.f k a0) (spec_DrawTakePacket.f (k + 1) a0) := by
  intro a0 k
  unfold spec_DrawTakePacket.f
  have m0 := @spec_l1New.mono
  have m1 := @spec_l24Queue.mono
  exact mo
theorem spec_DrawTakePacket.calls (k : Nat) (A0 : Option Addr) (c0 : Nat) (l0 : List Int) (r1 : List (S28)) (r2 : Int) (w : World) (hr0 : Kd.C (Kd.int .u8) w A0 l0.length l0) (hc0 : l0.length ≤ c0) (h : spec_DrawTakePacket.f k l0 = some (r1, r2)) :
    Calls Try.prog 10 #[.slice A0 l0.length c0] w fun e w' => ∃ v0_ : Value, e = .returned (.tuple #[.agg #[v0_], .int .i64 r2]) ∧ Kd.R k28 28 w' w.heap.size (fun _ => True) v0_ r1 ∧ Below w.heap.size w w' := by
 have hu26 := Try.underlying26
 have HR0 := am hr0
 have HC0 := am hc0
 clear hr0 hc0
 have HB := am (Below.refl w.heap.size w)
 have H := h; unfold spec_DrawTakePacket.f at H
 clear h
 obtain ⟨⟨t279, t280, t281⟩, A2, H⟩ := bnd H
 try dsimp only at H
 obtain ⟨⟨t283, t286, t287⟩, A3, H⟩ := bnd H
 try dsimp only at H
 obtain ⟨⟨t289, t290, t291⟩, A4, H⟩ := bnd H
 try dsimp only at H
 simp only [Option.some.injEq, Prod.mk.injEq] at H
 obtain ⟨rfl, rfl⟩ := H
 go_enter Try.func10, Try.ntmps10
 try go_wp2_with (first | ((with_reducible refine gd 2 rfl ?_); refine bx 2 #[.slice none 0 0] 26 ?_; intro gb278 hg w5 hbox hb; have GW278 := bz w hg; have GE278 := bz w hg; replace HB := bs hb; have BK278 := am hbox; clear hb hbox hg) | ((with_reducible refine gc 13 rfl ?_); refine gL (some 7) Try.func13 #[.slice A0 l0.length c0] ?_; (with_reducible refine (spec_l1New.calls k _ _ l0 t279 t280 t281 w _ ?side1 ?side2 ?side3 A2.out).mono ?_); (case side1 => repeat (first | (with_reducible first | exact HB.out | apply below_alloc | apply pw_below_drewN | apply below_drew1 | refine below_set ?_ GE278.out) | exact HB.out)); (case side2 => exact HR0.out); (case side3 => exact HC0.out); rintro e w6 ⟨g282, rfl, hi, hb, hb2⟩; refine ⟨_, rfl, ?_⟩; replace HB := am hb; have HI282 := am hi; have NB282_278 := am (IsS53.ne_blk hi (blk_below (g := gb278) (o := .cells #[.slice none 0 0] 26 (0, 0)) (sk BK278) hb2) (by decide)); have NB278_282 := am (Ne.symm (IsS53.ne_blk hi (blk_below (g := gb278) (o := .cells #[.slice none 0 0] 26 (0, 0)) (sk BK278) hb2) (by decide))); replace BK278 := bb BK278 hb2; (try clear hb); (try clear hb2); (try clear hk); (try clear hi)) | ((with_reducible refine gc 14 rfl ?_); refine gL (some 9) Try.func14 #[.pointer (some ⟨g282, 0, none⟩)] ?_; (with_reducible refine (spec_l24Queue.calls k g282 t279 t280 t281 t283 t286 t287 w _ ?side1 ?side2 A3.out).mono ?_); (case side1 => repeat (first | (with_reducible first | exact HI282.out | apply IsS53.alloc | apply IsS53.drewN | apply IsS53.drew | apply IsS53.set_1 | apply IsS53.set_2 | refine IsS53.far ?_ NB282_278.out _) | exact HI282.out)); (case side2 => repeat (first | (with_reducible first | exact HB.out | apply below_alloc | apply pw_below_drewN | apply below_drew1 | refine below_set ?_ (IsS53.ge HI282.out) | refine below_set ?_ GE278.out) | exact HB.out)); rintro e w7 ⟨v284, rfl, ho0, hi, hb, hk⟩; refine ⟨_, rfl, ?_⟩; replace BK278 := am (KeepBut.blk hk (g' := gb278) (o := .cells #[.slice none 0 0] 26 (0, 0)) (sk BK278) NB278_282.out (by simp)); have HO285 := am (Kd.R_lower ho0 (below_size a4_0)); replace HB := am hb; replace HI282 := am hi; (try clear hb); (try clear hb2); (try clear hk); (try clear hi); (try clear ho0)) | ((with_reducible refine gd 5 rfl ?_); refine bx 5 #[.slice none 0 0] 26 ?_; intro gb288 hg w8 hbox hb; replace HO285 := rb HO285 hb; have BK288 := am hbox; have GW288 := am ((by rw [hg]; exact (below_size a4_0) : w.heap.size ≤ gb288)); have GE288 := am ((by rw [hg]; exact (below_size a4_0) : w.heap.size ≤ gb288)); replace HB := am (below_step a4_0 hb); have NB278_288 := nl BK278 hg; have NB288_278 := ng BK278 hg; replace BK278 := bb BK278 hb; have NB282_288 := am ((by rw [hg]; exact Nat.ne_of_lt (IsS53.lt (show IsS53 w _ g282 t279 t286 t287 from a4_1)) : g282 ≠ gb288)); have NB288_282 := am ((by rw [hg]; exact Nat.ne_of_gt (IsS53.lt (show IsS53 w _ g282 t279 t286 t287 from a4_1)) : gb288 ≠ g282)); replace HI282 := am (IsS53.below a4_1 hb); clear hb hbox hg; obtain ⟨Ao9, co9, eo9⟩ := Kd.R_slice HO285.out; subst eo9; have hnb10 := NB288_278.out; have hnc10 := NB278_288.out; have hnb11 := NB288_282.out; have hnc11 := NB282_288.out; obtain ⟨hcz12_0, hfz12_0⟩ := cc1 BK288))
 have n0_ : Aside0 (Kd.R k28 28 (w8.setCell ⟨gb288, 0, none⟩ (.slice Ao9 t283.length co9)) w.heap.size (fun _ => True) (.slice Ao9 t283.length co9) t283) := ⟨by (with_reducible repeat (first | apply Kd.R_alloc | apply Kd.R_drewN | apply Kd.R_drew)); exact Kd.R_mono (Kd.R_far (p := ⟨gb288, 0, none⟩) (Kd.R_types HO285.out BK288.out (by decide)) (fun _ hk => hk.2) (.slice Ao9 t283.length co9)) (fun _ hk => trivial)⟩
 have n1_ : Aside0 ((w8.setCell ⟨gb288, 0, none⟩ (.slice Ao9 t283.length co9)).heap[gb278]? = some (.cells #[.slice none 0 0] 26 (0, 0))) := ⟨sp BK278⟩
 have n2_ : Aside0 ((w8.setCell ⟨gb288, 0, none⟩ (.slice Ao9 t283.length co9)).heap[gb288]? = some (.cells #[.slice Ao9 t283.length co9] 26 (0, 0))) := ⟨sp BK288⟩
 have n3_ : Aside0 (IsS53 w (w8.setCell ⟨gb288, 0, none⟩ (.slice Ao9 t283.length co9)) g282 t279 t286 t287) := ⟨a4_8⟩
 have n4_ : Aside0 (Below w.heap.size w (w8.setCell ⟨gb288, 0, none⟩ (.slice Ao9 t283.length co9))) := ⟨a4_9⟩
 (try clear HO285)
 (try clear BK278)
 (try clear BK288)
 (try clear HI282)
 (try clear HB)
 generalize (w8.setCell ⟨gb288, 0, none⟩ (.slice Ao9 t283.length co9)) = w13 at n0_ n1_ n2_ n3_ n4_ ⊢
 have HO285 := n0_
 have BK278 := n1_
 have BK288 := n2_
 have HI282 := n3_
 have HB := n4_
 clear n0_ n1_ n2_ n3_ n4_
 replace HO285 := am (Kd.R_drew HO285.out)
 replace BK278 := am (blk_drew BK278.out)
 replace BK288 := am (blk_drew BK288.out)
 replace HI282 := am (IsS53.drew HI282.out)
 replace HB := am (below_drew1 HB.out)
 refine start_ (n := 6) (S := fun w' => w'.cell? ⟨gb288, 0, none⟩ = some (.slice Ao9 t283.length co9)) (ds := []) #[false, false, false, false, false, false] (by kernel_rfl) rfl rfl (bc0 BK288) (fun hHeld => ?_)
 generalize w13.drew = w14 at HO285 BK278 BK288 HI282 HB hHeld ⊢
 refine pu 1 11 (bt 6 2) ?_
 refine take_ (i := 0) (N := some 10) (v := ?_) (a' := ?_) (bt 6 3) rfl rfl (by kernel_rfl) (fun _ _ _ h => h) (Or.inl ⟨by rfl, ?_⟩) hHeld ?_ ?_
 rotate_left
 ·intro w' s0
  go_simp
  with_reducible rfl
 rotate_left
 ·exact ap
 refine one_ (i := 2) (N := some 12) (bt 6 7) rfl rfl (by kernel_rfl) (by decide) (fun K hK => ?_)
 refine goes_ Try.func20 (by kernel_rfl) rfl #[.pointer (some ⟨g282, 0, none⟩), .int .i64 8] (by rfl) rfl rfl sl ?_
 with_reducible refine (spec_l1Below.calls g282 t279 t286 t287 8 t289 t290 t291 w _ ?side1 ?side2 A4.out).mono ?_
 (case side1 => repeat (first | (with_reducible first | exact HI282.out | apply IsS53.alloc | apply IsS53.drewN | apply IsS53.drew | apply IsS53.set_1 | apply IsS53.set_2 | refine IsS53.far ?_ NB282_278.out _ | refine IsS53.far ?_ NB282_288.out _) | exact HI282.out))
 (case side2 => repeat (first | (with_reducible first | exact HB.out | apply below_alloc | apply pw_below_drewN | apply below_drew1 | refine below_set ?_ (IsS53.ge HI282.out) | refine below_set ?_ GE278.out | refine below_set ?_ GE288.out) | exact HB.out))
 rintro e w15 ⟨rfl, hi, hb, hk⟩
 refine ⟨_, rfl, ?_⟩
 replace BK278 := am (KeepBut.blk hk (g' := gb278) (o := .cells #[.slice none 0 0] 26 (0, 0)) (sk BK278) NB278_282.out (by simp))
 replace HO285 := am (Kd.R_mono (Kd.R_keep (IsS53.apart (show IsS53 w _ g282 t279 t286 t287 from a4_8) (sr HO285) (by decide)) hk (fun _ h => h.2)) (fun _ h => h.1))
 replace BK288 := am (KeepBut.blk hk (g' := gb288) (o := .cells #[.slice Ao9 t283.length co9] 26 (0, 0)) (sk BK288) NB288_282.out (by simp))
 replace HB := am hb
 replace HI282 := am hi
 (try clear hb)
 (try clear hb2)
 (try clear hk)
 (try clear hi)
 refine hK.out _ _ (bc0 BK288) (fun hHeld => ?_)
 clear hK K
 refine nm 12 ?_
 refine pu 3 13 (bt 6 15) ?_
 refine one_ (i := 4) (N := none) (bt 6 31) rfl rfl (by kernel_rfl) (by decide) (fun K hK => ?_)
 obtain ⟨hs16, hfs16⟩ := cc1 BK278
 have hns16_1 := NB288_278.out
 have hms16_1 := NB278_288.out
 refine skip_ (w1 := ?_) (by rfl) rfl ?_ ?_
 rotate_left
 ·go_simp
  rfl
 refine hK.out _ _ (((cell_far (p := ⟨gb278, _, none⟩) NB288_278.out _).trans (hHeld))) (fun hHeld => ?_)
 clear hK K
 refine pu 5 3 (bt 6 63) ?_
 refine done_ (by kernel_rfl) ?_
 try go_wp2
 refine bodyPost_ret (results_ct rfl _ _ gb278 26 #[.slice Ao9 t283.length co9] (0, 0) _ rfl (sp BK278) Try.underlying26 rfl (by kernel_rfl)) rfl ?_
 exact ⟨_, se, by (with_reducible repeat (first | apply Kd.R_alloc | apply Kd.R_drewN | apply Kd.R_drew)); exact Kd.R_mono (Kd.R_far (p := ⟨gb278, 0, none⟩) (Kd.R_types HO285.out BK278.out (by decide)) (fun _ hk => hk.2) (.slice Ao9 t283.length co9)) (fun _ hk => trivial), a4_9⟩

def impl_isIndex.f (a0 : Int) (a1 : Int) : Option (Bool) := if a0 ≥ 0 then (some (decide (a0 < a1))) else (some false)
theorem impl_isIndex.calls (a0 : Int) (a1 : Int) (r : Bool) (w : World) (h : impl_isIndex.f a0 a1 = some r) :
    Calls Try.prog 21 #[.int .i64 a0, .int .i64 a1] w fun e w' => e = .returned (.bool r) ∧ Drawn0 w w' := by
 have H := h; unfold impl_isIndex.f at H
 clear h
 obtain ⟨-, c3b0, H⟩ | ⟨-, c3b0, H⟩ := ic_ H
 ·obtain rfl := Option.some.inj H
  go_enter Try.func21, Try.ntmps21
  go_wp2
  go_ret
  exact ⟨sc, sd⟩
 ·obtain rfl := Option.some.inj H
  go_enter Try.func21, Try.ntmps21
  go_wp2
  go_ret
  exact ⟨sc, sd⟩

section
variable {P : Program}
theorem impl_Packet_22.clear_run {α : Type} (d : Kd α) {W : World} (base : Nat) (t ty e : TypeId) (z : Value) (ht : P.underlying t = some (.slice e)) (hv : ∀ w, (zeroValue e).run P w = .ok z w) (hz : z.cells.size = d.sz) (h1 : ∀ u ∈ z.cells.toList, u.oneCell' = true)
    {g m c : Nat} {xs : List α} {ok : Nat → Prop} (HO : d.R e W base ok (.slice (some ⟨g, 0, none⟩) m c) xs) (hm : m < c) (c2 : Nat) :
    ∃ w1, (Builtin.clear_ #[t] ty #[.slice (some ⟨g, m * d.sz, none⟩) 1 c2]).run P W = .ok (.tuple #[]) w1 ∧ d.R e w1 base ok (.slice (some ⟨g, 0, none⟩) m c) xs ∧ W.grownBy w1 (some g) := by
  obtain ⟨hn, hnc, _⟩ := Kd.R_reads' HO
  obtain ⟨hok, inner, hown, hr⟩ := HO
  have hin : inner.length = m * d.sz := by rw [hr.1, hn]
  rcases hown.2 with ⟨hv', _⟩ | ⟨g', cap', cur, hv', hb, hh, hlc, hcm, hcs, htake⟩
  · cases hv'
  injection hv' with ha _ hc
  injection ha with ha
  injection ha with hg
  subst hg; subst hc
  rw [← hn] at htake
  have hz0 : (Builtin.zeroCells z.cells 1).toList = z.cells.toList := by
    simp only [Builtin.zeroCells]
    apply List.ext_getElem
    · simp
    · intro i hi1 hi2
      simp at hi1 hi2
      simp [Nat.mod_eq_of_lt hi2, hi2]
  have hle : (m + 1) * d.sz ≤ c * d.sz := Nat.mul_le_mul_right _ hm
  have hm1 : (m + 1) * d.sz = m * d.sz + d.sz := Nat.succ_mul _ _
  have hzl : z.cells.toList.length = d.sz := by rw [Array.length_toList, hz]
  have hfit : 0 + m * d.sz + z.cells.toList.length ≤ cur.size := by omega
  have hst := run_storeCells_cells (P := P) g (m * d.sz) z.cells.toList 0 W (fun j hj => by rw [cell_of_row W g _ cur e (0, 0) hh]; simp; omega) (fun j _ => blk_frozen hh _) h1
  rw [Nat.add_zero] at hst
  obtain ⟨cur', h3, h4, h5⟩ := setCells_row z.cells.toList (0 + m * d.sz) W cur hh hfit
  rw [Nat.zero_add] at h3 h5
  obtain ⟨s1, s2, s3, s4⟩ := setCells_same g z.cells.toList (m * d.sz) W
  have hfar : ∀ k', k' ≠ g → (W.setCells g (m * d.sz) z.cells.toList).heap[k']? = W.heap[k']? := fun k' hk' => setCells_far z.cells.toList _ k' hk'
  have hgo : ∀ q, some g = (Value.slice (some ⟨g, 0, none⟩) q c).ownBlock := fun q => by simp [Value.ownBlock]
  refine ⟨_, ?_, ⟨hok, inner, ⟨?_, .inr ⟨g, c, cur', by rw [← hn], hb, h3, hlc, hcm, by rw [h4, hcs], ?_⟩⟩, ?_⟩, ⟨s1, s2, s3, by rw [s4]; exact Nat.le_refl _, fun k' _ hk' => hfar k' (fun he => hk' (by rw [he]))⟩⟩
  rotate_left
  · exact hown.1
  · rw [← hn, h5]
    rw [← htake]
    have h6 : (cur.toList.take (m * d.sz)).length = m * d.sz := by rw [htake, hin]
    rw [List.append_assoc]
    exact List.take_left' h6
  · exact hr.imp_ (fun p q hp => d.M_move (fun k' hk' => hfar k' (fun he => hk'.2 (by rw [← hgo, he]))) hp)
  · simp [Builtin.clear_, run_underlying ht, hv, hz0, hst]
end
def impl_Packet_22.f (l0 : List S28) (a1 : Int) (a2 : Int) : Option (List S28) := if 0 ≤ a1 ∧ a1 < (l0.length : Int) ∧ a2 = a1 + 1 then some (l0.eraseIdx a1.toNat) else none
theorem impl_Packet_22.calls (P0_ : Nat → Prop) (u9000_ : Value) (l0 : List S28) (a1 : Int) (a2 : Int) (r : List S28) (w0 w : World) (hB : Below w0.heap.size w0 w) (ho0 : Kd.R k28 28 w w0.heap.size P0_ u9000_ l0) (h : impl_Packet_22.f l0 a1 a2 = some r) :
    Calls Try.prog 22 #[u9000_, .int .i64 a1, .int .i64 a2] w fun e w' => ∃ v0_ : Value, e = .returned (v0_) ∧ Kd.R k28 28 w' w0.heap.size (fun k_ => (P0_ k_ ∨ w.heap.size ≤ k_)) v0_ r ∧ Below w0.heap.size w0 w' ∧ Kept w w' (fun k_ => P0_ k_) := by
 have hu := Try.underlying24
 unfold impl_Packet_22.f at h
 by_cases hm : 0 ≤ a1 ∧ a1 < (l0.length : Int) ∧ a2 = a1 + 1
 rotate_left
 ·rw [if_neg hm] at h
  cases h
 rw [if_pos hm] at h
 obtain rfl := Option.some.inj h
 obtain ⟨k, rfl⟩ := Int.eq_ofNat_of_zero_le hm.1
 have hk : k < l0.length := by omega
 obtain rfl : a2 = ((k + 1 : Nat) : Int) := by omega
 obtain ⟨A, c, rfl⟩ := Kd.R_slice ho0
 obtain ⟨g, cap_, ev_, _⟩ := Kd.R_form ho0 (by omega)
 injection ev_ with ea_ _ ec_
 subst ea_
 obtain rfl : c = cap_ := ec_
 have hlc := (Kd.R_reads' ho0).2.1
 have hP := ho0.1
 obtain ⟨m, hml⟩ : ∃ m, l0.length = m + 1 := ⟨l0.length - 1, by omega⟩
 rw [hml] at ho0 hlc hk ⊢
 have HO := am ho0
 have HB := am hB
 have HG : Aside0 (P0_ g) := ⟨hP g (by simp [Value.ownBlock])⟩
 have HM := am hml
 clear ho0 hB hP h hm hml
 have hkc : k ≤ c := by omega
 have hkc1 : k + 1 ≤ c := by omega
 have hkl : k + 1 ≤ m + 1 := by omega
 have hkk : k ≤ k + 1 := by omega
 have hne : ¬ (k = k + 1) := by omega
 have hki2 : (k : Int) ≤ (k : Int) + 1 := by omega
 have hk0 : (0 : Int) ≤ (k : Int) + 1 := by omega
 have hki : (k : Int) + 1 ≤ (m : Int) + 1 := by omega
 have hkj : 0 ≤ (k : Int) + 1 ∧ (k : Int) + 1 ≤ (m : Int) + 1 := ⟨hk0, hki⟩
 have hcm : ¬ c = m := by omega
 have hmc : m ≤ c := by omega
 have hmm : m ≤ m + 1 := by omega
 have hz : ∀ w, (zeroValue 28).run Try.prog w = .ok (.agg #[.int .i64 0, .int .i64 0, .int .i64 0, .int .i64 0, .int .i64 0, .int .i64 0]) w := fun w => rfl
 by_cases hq : c = k + 1
 ·subst hq
  go_enter Try.func22, Try.ntmps22
  go_wp2_with fail
  go_region_law (refine Kd.R_delete_step k28 (w0 := w0) w0.heap.size (by rfl) (.tmp 22) (.tmp 25) 24 28 rfl Try.underlying24 (by kernel_rfl) (g := g) (n := m + 1) (c := k + 1) (k := k) rfl rfl ?hA ?hm (Kd.R_drew HO.out) ?hk (below_drew1 HB.out) ?hs ?_; (case hA => simp [Addr.add, show k28.sz = 6 from rfl]; done); (case hm => omega); (case hk => omega); (case hs => exact HB.out.size); intro w1 ho hb hg)
  have hD : Kept w w1 (fun k_ => P0_ k_) := Kept.of_grown hg (Kept.refl _ _) (fun k_ e_ => a4_10)
  rw [Nat.add_sub_cancel] at ho
  obtain ⟨w2, hcl, ho2, hg2⟩ := impl_Packet_22.clear_run (P := Try.prog) k28 w0.heap.size 24 0 28 _ hu hz rfl (by decide) ho (by omega) (k + 1 - m)
  replace hcl : (Builtin.clear_ #[24] 0 #[.slice (some ⟨g, m * 6, none⟩) 1 (k + 1 - m)]).run Try.prog w1 = .ok (.tuple #[]) w2 := hcl
  have hb2 := hb.grown hg2 (Nat.le_trans HB.out.size hD.1) (fun k_ e_ => a4_11)
  have hD2 : Kept w w2 (fun k_ => P0_ k_) := Kept.of_grown hg2 hD (fun k_ e_ => a4_10)
  clear ho hD hg hg2 hb
  have HO2 := am ho2
  have HB2 := am hb2
  have HD2 := am hD2
  clear ho2 hb2 hD2
  go_wp2
  go_ret
  refine ⟨_, rfl, ?_, HB2.out, HD2.out⟩
  exact Kd.R_mono (ok := P0_) HO2.out (fun _ h_ => Or.inl h_)
 ·go_enter Try.func22, Try.ntmps22
  go_wp2_with fail
  go_region_law (refine Kd.R_delete_step k28 (w0 := w0) w0.heap.size (by rfl) (.tmp 22) (.tmp 25) 24 28 rfl Try.underlying24 (by kernel_rfl) (g := g) (n := m + 1) (c := c) (k := k) rfl rfl ?hA ?hm (Kd.R_drew HO.out) ?hk (below_drew1 HB.out) ?hs ?_; (case hA => simp [hq, Addr.add, show k28.sz = 6 from rfl]; done); (case hm => omega); (case hk => omega); (case hs => exact HB.out.size); intro w1 ho hb hg)
  have hD : Kept w w1 (fun k_ => P0_ k_) := Kept.of_grown hg (Kept.refl _ _) (fun k_ e_ => a4_10)
  rw [Nat.add_sub_cancel] at ho
  obtain ⟨w2, hcl, ho2, hg2⟩ := impl_Packet_22.clear_run (P := Try.prog) k28 w0.heap.size 24 0 28 _ hu hz rfl (by decide) ho (by omega) (c - m)
  replace hcl : (Builtin.clear_ #[24] 0 #[.slice (some ⟨g, m * 6, none⟩) 1 (c - m)]).run Try.prog w1 = .ok (.tuple #[]) w2 := hcl
  have hb2 := hb.grown hg2 (Nat.le_trans HB.out.size hD.1) (fun k_ e_ => a4_11)
  have hD2 : Kept w w2 (fun k_ => P0_ k_) := Kept.of_grown hg2 hD (fun k_ e_ => a4_10)
  clear ho hD hg hg2 hb
  have HO2 := am ho2
  have HB2 := am hb2
  have HD2 := am hD2
  clear ho2 hb2 hD2
  go_wp2
  go_ret
  refine ⟨_, rfl, ?_, HB2.out, HD2.out⟩
  exact Kd.R_mono (ok := P0_) HO2.out (fun _ h_ => Or.inl h_)

def impl_TakePacket.f (l0_0 : List (S28)) (a1 : Int) : Option ((List (S28)) × Int × Int × Int × Int × Int × Int × Bool) := (impl_cloneQueue.f l0_0).bind fun t295 => ((impl_isIndex.f a1 (l0_0.length : Int)).bind fun t299 => (if t299 = true then ((impl_Packet_22.f t295 a1 (wrap64 (a1 + 1))).bind fun t300 => (if 0 ≤ a1 then (if a1 < (l0_0.length : Int) then (some (t300, (rd_T28 l0_0 a1).f0, (rd_T28 l0_0 a1).f1, (rd_T28 l0_0 a1).f2, (rd_T28 l0_0 a1).f3, (rd_T28 l0_0 a1).f4, (rd_T28 l0_0 a1).f5, true)) else (none)) else (none))) else (some (t295, 0, 0, 0, 0, 0, 0, false))))
def impl_TakePacket.T5 : Bool × List (List Nat × List Nat) := (true, [([], []), ([], []), ([1], [1]), ([], []), ([2, 3], [2, 3]), ([4], [4]), ([0, 0], [0]), ([5, 6, 0, 1, 2, 3, 4, 5, 6], [5]), ([7, 0, 1, 2, 3, 4, 5, 6, 7], [])])
def impl_TakePacket.B5 : List Nat := [0, 0, 2, 0, 14, 30, 1, 127, 255]
theorem impl_TakePacket.tab5 : rtab .any (opsOf Try.f11 5) = impl_TakePacket.T5 := by kernel_rfl
theorem impl_TakePacket.bits5 : waitsOk impl_TakePacket.T5.2 impl_TakePacket.B5 = true := by kernel_rfl
theorem impl_TakePacket.calls (A0_0 : Option Addr) (c0_0 : Nat) (l0_0 : List (S28)) (a1 : Int) (r1 : List (S28)) (r2 : Int) (r3 : Int) (r4 : Int) (r5 : Int) (r6 : Int) (r7 : Int) (r8 : Bool) (w : World) (hr0_0 : Kd.C k28 w A0_0 l0_0.length l0_0) (hc0_0 : l0_0.length ≤ c0_0) (h : impl_TakePacket.f l0_0 a1 = some (r1, r2, r3, r4, r5, r6, r7, r8)) :
    Calls Try.prog 11 #[.agg #[.slice A0_0 l0_0.length c0_0], .int .i64 a1] w fun e w' => ∃ v0_ : Value, e = .returned (.tuple #[.agg #[v0_], .agg #[.int .i64 r2, .int .i64 r3, .int .i64 r4, .int .i64 r5, .int .i64 r6, .int .i64 r7], .bool r8]) ∧ Kd.R k28 28 w' w.heap.size (fun _ => True) v0_ r1 ∧ Below w.heap.size w w' := by
 have hu26 := Try.underlying26
 have hu28 := Try.underlying28
 have HR0_0 := am hr0_0
 have HC0_0 := am hc0_0
 clear hr0_0 hc0_0
 have HB := am (Below.refl w.heap.size w)
 have H := h; unfold impl_TakePacket.f at H
 clear h
 obtain ⟨t295, A3, H⟩ := bnd H
 obtain ⟨t299, A4, H⟩ := bnd H
 obtain rfl | rfl := tt t299
 ·replace H := ip H
  obtain ⟨t300, A6, H⟩ := bnd H
  obtain ⟨c7b0, H⟩ := id_ H
  obtain ⟨c8b0, H⟩ := id_ H
  simp only [Option.some.injEq, Prod.mk.injEq] at H
  obtain ⟨rfl, rfl, rfl, rfl, rfl, rfl, rfl, rfl⟩ := H
  go_enter Try.func11, Try.ntmps11
  try go_wp2_with (first | ((with_reducible refine gd 2 rfl ?_); refine bx 2 #[.slice A0_0 l0_0.length c0_0] 26 ?_; intro gb292 hg w9 hbox hb; have GW292 := bz w hg; have GE292 := bz w hg; replace HB := bs hb; have BK292 := am hbox; clear hb hbox hg) | ((with_reducible refine gd 4 rfl ?_); refine bx 4 #[.slice none 0 0] 26 ?_; intro gb293 hg w10 hbox hb; have GW293 := bzw w hg; have GE293 := bzw w hg; replace HB := bsw hb; have BK293 := am hbox; have NB292_293 := nl BK292 hg; have NB293_292 := ng BK292 hg; replace BK292 := bb BK292 hb; clear hb hbox hg) | ((with_reducible refine gd 5 rfl ?_); refine bx 5 #[.int .i64 0, .int .i64 0, .int .i64 0, .int .i64 0, .int .i64 0, .int .i64 0] 28 ?_; intro gb294 hg w11 hbox hb; have GW294 := bzw w hg; have GE294 := bzw w hg; replace HB := bsw hb; have BK294 := am hbox; have NB292_294 := nl BK292 hg; have NB294_292 := ng BK292 hg; replace BK292 := bb BK292 hb; have NB293_294 := nl BK293 hg; have NB294_293 := ng BK293 hg; replace BK293 := bb BK293 hb; clear hb hbox hg; have hnb12 := NB292_293.out; have hnc12 := NB293_292.out; have hnb13 := NB292_294.out; have hnc13 := NB294_292.out; obtain ⟨hcz14_0, hfz14_0⟩ := cc1 BK292) | ((with_reducible refine gc 17 rfl ?_); refine gL (some 9) Try.func17 #[.agg #[.slice A0_0 l0_0.length c0_0]] ?_; (with_reducible refine (impl_cloneQueue.calls _ _ l0_0 t295 _ ?side1 ?side2 A3.out).mono ?_); (case side1 => exact cb HR0_0); (case side2 => exact HC0_0.out); rintro e w15 ⟨v296, rfl, ho0, hb⟩; refine ⟨_, rfl, ?_⟩; have HO297 := am (Kd.R_lower (Kd.R_newB ho0 (g := gb294) (o := .cells #[.int .i64 0, .int .i64 0, .int .i64 0, .int .i64 0, .int .i64 0, .int .i64 0] 28 (0, 0)) (sk BK294)) (below_size (sbw))); replace BK292 := bb BK292 hb; replace BK293 := bb BK293 hb; replace BK294 := bb BK294 hb; replace HB := bsw hb; (try clear hb); (try clear hk); (try clear ho0)) | ((with_reducible refine gd 7 rfl ?_); refine bx 7 #[.slice none 0 0] 26 ?_; intro gb298 hg w16 hbox hb; replace HO297 := rb HO297 hb; have GW298 := bzw w hg; have GE298 := bzw w hg; replace HB := bsw hb; have BK298 := am hbox; have NB292_298 := nl BK292 hg; have NB298_292 := ng BK292 hg; replace BK292 := bb BK292 hb; have NB293_298 := nl BK293 hg; have NB298_293 := ng BK293 hg; replace BK293 := bb BK293 hb; have NB294_298 := nl BK294 hg; have NB298_294 := ng BK294 hg; replace BK294 := bb BK294 hb; clear hb hbox hg; obtain ⟨Ao17, co17, eo17⟩ := Kd.R_slice HO297.out; subst eo17; have hnb18 := NB298_292.out; have hnc18 := NB292_298.out; have hnb19 := NB298_293.out; have hnc19 := NB293_298.out; have hnb20 := NB298_294.out; have hnc20 := NB294_298.out; obtain ⟨hcz21_0, hfz21_0⟩ := cc1 BK298) | ((with_reducible refine gate_store (t := 26) (p := 7) rfl ?_); refine store_event (t := 26) (p := 7) (v := ?vo_w22) (w1 := (w16.setCell ⟨gb298, 0, none⟩ (.slice Ao17 t295.length co17))) ?hg ?ho ?hn ?hr ?_; (case ho => rfl); (case hg => rfl); (case hn => rfl); (case hr => first | (go_simp; done) | (go_simp; rfl)); intro w22 hw; replace HO297 : Aside0 (Kd.R k28 28 w22 w.heap.size (fun k_ => k_ ≠ gb294) (.slice Ao17 t295.length co17) t295) := ⟨(by rw [hw]; exact (by (with_reducible repeat (first | apply Kd.R_alloc | apply Kd.R_drewN | apply Kd.R_drew)); exact Kd.R_mono (Kd.R_far (p := ⟨gb298, 0, none⟩) (Kd.R_types HO297.out BK298.out (by decide)) (fun _ hk => hk.2) (.slice Ao17 t295.length co17)) (fun _ hk => hk.1.2)))⟩; replace BK292 : Aside0 (w22.heap[gb292]? = some (.cells #[.slice A0_0 l0_0.length c0_0] 26 (0, 0))) := ⟨(by rw [hw]; exact (sp BK292))⟩; replace BK293 : Aside0 (w22.heap[gb293]? = some (.cells #[.slice none 0 0] 26 (0, 0))) := ⟨(by rw [hw]; exact (sp BK293))⟩; replace BK294 : Aside0 (w22.heap[gb294]? = some (.cells #[.int .i64 0, .int .i64 0, .int .i64 0, .int .i64 0, .int .i64 0, .int .i64 0] 28 (0, 0))) := ⟨(by rw [hw]; exact (sp BK294))⟩; replace BK298 : Aside0 (w22.heap[gb298]? = some (.cells #[.slice Ao17 t295.length co17] 26 (0, 0))) := ⟨(by rw [hw]; exact (sp BK298))⟩; replace HB : Aside0 (Below w.heap.size w w22) := ⟨(by rw [hw]; exact (sbw))⟩; clear hw; obtain ⟨hcz23_0, hfz23_0⟩ := cc1 BK292) | ((with_reducible refine gc 21 rfl ?_); refine gL (some 14) Try.func21 #[.int .i64 a1, .int .i64 (l0_0.length : Int)] ?_; (with_reducible refine (impl_isIndex.calls a1 (l0_0.length : Int) true _ A4.out).mono ?_); rintro e w' ⟨rfl, ⟨nd, rfl⟩⟩; refine ⟨_, rfl, ?_⟩; obtain ⟨hcz24_0, hfz24_0⟩ := cc1 BK298) | ((with_reducible refine gc 22 rfl ?_); refine gL (some 23) Try.func22 #[.slice Ao17 t295.length co17, .int .i64 a1, .int .i64 (wrap64 (a1 + 1))] ?_; (with_reducible refine (impl_Packet_22.calls (fun k_ => some k_ = (.slice Ao17 t295.length co17 : Value).ownBlock) (.slice Ao17 t295.length co17) t295 a1 (wrap64 (a1 + 1)) t300 w _ ?side1 ?side2 A6.out).mono ?_); (case side1 => repeat (first | (with_reducible first | exact HB.out | apply below_alloc | apply pw_below_drewN | apply below_drew1 | refine below_set ?_ GE292.out | refine below_set ?_ GE293.out | refine below_set ?_ GE294.out | refine below_set ?_ GE298.out) | exact HB.out)); (case side2 => exact Kd.R_tight rfl HO297.out); rintro e w25 ⟨v301, rfl, ho0, hb, hkp⟩; refine ⟨_, rfl, ?_⟩; replace BK292 := am (blk_kept (sk BK292) hkp (fun hs_ => (fun e_ => (Kd.R_ne HO297.out BK292.out (by decide)) e_) hs_)); replace BK293 := am (blk_kept (sk BK293) hkp (fun hs_ => (fun e_ => (Kd.R_ne HO297.out BK293.out (by decide)) e_) hs_)); replace BK298 := am (blk_kept (sk BK298) hkp (fun hs_ => (fun e_ => (Kd.R_ne HO297.out BK298.out (by decide)) e_) hs_)); have HO302 := am (Kd.R_mono (ok' := fun k_ => k_ ≠ gb294) ho0 (fun k_ hk_ => Or.elim hk_ (fun hs_ => fun e_ => (Kd.R_away HO297.out (fun _ hk => hk)) (by rw [← e_]; exact hs_)) (fun hn_ => (Kd.freshB (g := gb294) (o := .cells #[.int .i64 0, .int .i64 0, .int .i64 0, .int .i64 0, .int .i64 0, .int .i64 0] 28 (0, 0)) (sk BK294) k_ hn_)))); replace BK294 := am (blk_kept (sk BK294) hkp (fun hs_ => (fun e_ => (Kd.R_away HO297.out (fun _ hk => hk)) e_) hs_)); replace HB := am hb; clear HO297; (try clear hb); (try clear hkp); (try clear ho0); obtain ⟨Ao26, co26, eo26⟩ := Kd.R_slice HO302.out; subst eo26; obtain ⟨hcz27_0, hfz27_0⟩ := cc1 BK298))
  have n0_ : Aside0 (Kd.R k28 28 (w25.setCell ⟨gb298, 0, none⟩ (.slice Ao26 t300.length co26)) w.heap.size (fun k_ => k_ ≠ gb294) (.slice Ao26 t300.length co26) t300) := ⟨by (with_reducible repeat (first | apply Kd.R_alloc | apply Kd.R_drewN | apply Kd.R_drew)); exact Kd.R_mono (Kd.R_far (p := ⟨gb298, 0, none⟩) (Kd.R_types HO302.out BK298.out (by decide)) (fun _ hk => hk.2) (.slice Ao26 t300.length co26)) (fun _ hk => hk.1)⟩
  have n1_ : Aside0 ((w25.setCell ⟨gb298, 0, none⟩ (.slice Ao26 t300.length co26)).heap[gb292]? = some (.cells #[.slice A0_0 l0_0.length c0_0] 26 (0, 0))) := ⟨sp BK292⟩
  have n2_ : Aside0 ((w25.setCell ⟨gb298, 0, none⟩ (.slice Ao26 t300.length co26)).heap[gb293]? = some (.cells #[.slice none 0 0] 26 (0, 0))) := ⟨sp BK293⟩
  have n3_ : Aside0 ((w25.setCell ⟨gb298, 0, none⟩ (.slice Ao26 t300.length co26)).heap[gb294]? = some (.cells #[.int .i64 0, .int .i64 0, .int .i64 0, .int .i64 0, .int .i64 0, .int .i64 0] 28 (0, 0))) := ⟨sp BK294⟩
  have n4_ : Aside0 ((w25.setCell ⟨gb298, 0, none⟩ (.slice Ao26 t300.length co26)).heap[gb298]? = some (.cells #[.slice Ao26 t300.length co26] 26 (0, 0))) := ⟨sp BK298⟩
  have n5_ : Aside0 (Below w.heap.size w (w25.setCell ⟨gb298, 0, none⟩ (.slice Ao26 t300.length co26))) := ⟨sbw⟩
  (try clear HO302)
  (try clear BK292)
  (try clear BK293)
  (try clear BK294)
  (try clear BK298)
  (try clear HB)
  generalize (w25.setCell ⟨gb298, 0, none⟩ (.slice Ao26 t300.length co26)) = w28 at n0_ n1_ n2_ n3_ n4_ n5_ ⊢
  have HO302 := n0_
  have BK292 := n1_
  have BK293 := n2_
  have BK294 := n3_
  have BK298 := n4_
  have HB := n5_
  clear n0_ n1_ n2_ n3_ n4_ n5_
  replace HO302 := am (Kd.R_drew HO302.out)
  replace BK292 := am (blk_drew BK292.out)
  replace BK293 := am (blk_drew BK293.out)
  replace BK294 := am (blk_drew BK294.out)
  replace BK298 := am (blk_drew BK298.out)
  replace HB := am (below_drew1 HB.out)
  obtain ⟨p303, q303, ad303, e303, hw303_0, hw303_1, hw303_2, hw303_3, hw303_4, hw303_5, hx303_0, hx303_1, hx303_2, hx303_3, hx303_4, hx303_5⟩ := aT_T28 HR0_0 HB a1
  cases e303
  refine start_ (n := 9) (S := fun w' => w'.cell? ⟨gb298, 0, none⟩ = some (.slice Ao26 t300.length co26) ∧ w'.cell? ⟨gb292, 0, none⟩ = some (.slice (some ad303) l0_0.length c0_0) ∧ w'.cell? (ad303.add ((a1).toNat * 6)) = some (.int .i64 ((rd_T28 l0_0 a1).f0)) ∧ w'.cell? ⟨(ad303.add ((a1).toNat * 6)).block, (ad303.add ((a1).toNat * 6)).off + 1, none⟩ = some (.int .i64 ((rd_T28 l0_0 a1).f1)) ∧ w'.cell? ⟨(ad303.add ((a1).toNat * 6)).block, (ad303.add ((a1).toNat * 6)).off + 2, none⟩ = some (.int .i64 ((rd_T28 l0_0 a1).f2)) ∧ w'.cell? ⟨(ad303.add ((a1).toNat * 6)).block, (ad303.add ((a1).toNat * 6)).off + 3, none⟩ = some (.int .i64 ((rd_T28 l0_0 a1).f3)) ∧ w'.cell? ⟨(ad303.add ((a1).toNat * 6)).block, (ad303.add ((a1).toNat * 6)).off + 4, none⟩ = some (.int .i64 ((rd_T28 l0_0 a1).f4)) ∧ w'.cell? ⟨(ad303.add ((a1).toNat * 6)).block, (ad303.add ((a1).toNat * 6)).off + 5, none⟩ = some (.int .i64 ((rd_T28 l0_0 a1).f5))) (ds := []) #[false, false, false, false, false, false, false, false, false] (by kernel_rfl) rfl rfl ⟨bc0 BK298, bc0 BK292, (hb_ HB hw303_0), (hb_ HB hw303_1), (hb_ HB hw303_2), (hb_ HB hw303_3), (hb_ HB hw303_4), (hb_ HB hw303_5)⟩ (fun hHeld => ?_); refine with_tabW impl_TakePacket.tab5 impl_TakePacket.bits5 (fun HT_ HW_ => ?_)
  generalize w28.drew = w29 at HO302 BK292 BK293 BK294 BK298 HB hx303_0 hx303_1 hx303_2 hx303_3 hx303_4 hx303_5 hHeld ⊢
  refine put 1 26 (bt 9 2) HT_ ?_
  refine put 3 28 (bt 9 10) HT_ ?_
  refine tat8 0 25 (bt 9 11) HT_ HW_ hHeld ?_
  refine tat8 2 27 (bt 9 15) HT_ HW_ hHeld ?_
  refine put 4 29 (bt 9 31) HT_ ?_
  refine tat8 5 30 (bt 9 63) HT_ HW_ hHeld ?_
  refine one_ (i := 6) (N := none) (bt 9 127) rfl rfl (one_of HT_.out (by kernel_rfl)) (by decide) (fun K hK => ?_)
  obtain ⟨hs30, hfs30⟩ := cc1 BK293
  have hns30_0 := NB292_293.out
  have hns30_2 := NB294_293.out
  have hns30_3 := NB298_293.out
  have hms30_0 := NB293_292.out
  have hms30_2 := NB293_294.out
  have hms30_3 := NB293_298.out
  refine skip_ (w1 := ?_) (by rfl) rfl ?_ ?_
  rotate_left
  ·go_simp
   rfl
  refine hK.out _ _ ⟨((cell_far (p := ⟨gb293, _, none⟩) NB298_293.out _).trans (hHeld.1)), ((cell_far (p := ⟨gb293, _, none⟩) NB292_293.out _).trans (hHeld.2.1)), ((cell_far (p := ⟨gb293, _, none⟩) (by exact Nat.ne_of_lt (Nat.lt_of_lt_of_le (bl hw303_0) GW293.out)) _).trans (hHeld.2.2.1)), ((cell_far (p := ⟨gb293, _, none⟩) (by exact Nat.ne_of_lt (Nat.lt_of_lt_of_le (bl hw303_1) GW293.out)) _).trans (hHeld.2.2.2.1)), ((cell_far (p := ⟨gb293, _, none⟩) (by exact Nat.ne_of_lt (Nat.lt_of_lt_of_le (bl hw303_2) GW293.out)) _).trans (hHeld.2.2.2.2.1)), ((cell_far (p := ⟨gb293, _, none⟩) (by exact Nat.ne_of_lt (Nat.lt_of_lt_of_le (bl hw303_3) GW293.out)) _).trans (hHeld.2.2.2.2.2.1)), ((cell_far (p := ⟨gb293, _, none⟩) (by exact Nat.ne_of_lt (Nat.lt_of_lt_of_le (bl hw303_4) GW293.out)) _).trans (hHeld.2.2.2.2.2.2.1)), ((cell_far (p := ⟨gb293, _, none⟩) (by exact Nat.ne_of_lt (Nat.lt_of_lt_of_le (bl hw303_5) GW293.out)) _).trans (hHeld.2.2.2.2.2.2.2))⟩ (fun hHeld => ?_)
  clear hK K
  refine one_ (i := 7) (N := none) (bt 9 255) rfl rfl (one_of HT_.out (by kernel_rfl)) (by decide) (fun K hK => ?_)
  obtain ⟨hs31, hfs31⟩ := cc1 BK294
  have hns31_0 := NB292_294.out
  have hns31_1 := NB293_294.out
  have hns31_3 := NB298_294.out
  have hms31_0 := NB294_292.out
  have hms31_1 := NB294_293.out
  have hms31_3 := NB294_298.out
  have hs32 := bc1 BK294
  have hfs32 := bf BK294 1
  have hns32_0 := NB292_294.out
  have hns32_1 := NB293_294.out
  have hns32_3 := NB298_294.out
  have hms32_0 := NB294_292.out
  have hms32_1 := NB294_293.out
  have hms32_3 := NB294_298.out
  have hs33 := bc2 BK294
  have hfs33 := bf BK294 2
  have hns33_0 := NB292_294.out
  have hns33_1 := NB293_294.out
  have hns33_3 := NB298_294.out
  have hms33_0 := NB294_292.out
  have hms33_1 := NB294_293.out
  have hms33_3 := NB294_298.out
  have hs34 := bc3 BK294
  have hfs34 := bf BK294 3
  have hns34_0 := NB292_294.out
  have hns34_1 := NB293_294.out
  have hns34_3 := NB298_294.out
  have hms34_0 := NB294_292.out
  have hms34_1 := NB294_293.out
  have hms34_3 := NB294_298.out
  have hs35 := bc4 BK294
  have hfs35 := bf BK294 4
  have hns35_0 := NB292_294.out
  have hns35_1 := NB293_294.out
  have hns35_3 := NB298_294.out
  have hms35_0 := NB294_292.out
  have hms35_1 := NB294_293.out
  have hms35_3 := NB294_298.out
  have hs36 := bc5 BK294
  have hfs36 := bf BK294 5
  have hns36_0 := NB292_294.out
  have hns36_1 := NB293_294.out
  have hns36_3 := NB298_294.out
  have hms36_0 := NB294_292.out
  have hms36_1 := NB294_293.out
  have hms36_3 := NB294_298.out
  refine skip_ (w1 := ?_) (by rfl) rfl ?_ ?_
  rotate_left
  ·go_simp
   rfl
  refine hK.out _ _ ⟨((cell_far (p := ⟨gb294, _, none⟩) NB298_294.out _).trans (((cell_far (p := ⟨gb294, _, none⟩) NB298_294.out _).trans (((cell_far (p := ⟨gb294, _, none⟩) NB298_294.out _).trans (((cell_far (p := ⟨gb294, _, none⟩) NB298_294.out _).trans (((cell_far (p := ⟨gb294, _, none⟩) NB298_294.out _).trans (((cell_far (p := ⟨gb294, _, none⟩) NB298_294.out _).trans (hHeld.1)))))))))))), ((cell_far (p := ⟨gb294, _, none⟩) NB292_294.out _).trans (((cell_far (p := ⟨gb294, _, none⟩) NB292_294.out _).trans (((cell_far (p := ⟨gb294, _, none⟩) NB292_294.out _).trans (((cell_far (p := ⟨gb294, _, none⟩) NB292_294.out _).trans (((cell_far (p := ⟨gb294, _, none⟩) NB292_294.out _).trans (((cell_far (p := ⟨gb294, _, none⟩) NB292_294.out _).trans (hHeld.2.1)))))))))))), ((cell_far (p := ⟨gb294, _, none⟩) a4_2 _).trans (((cell_far (p := ⟨gb294, _, none⟩) a4_2 _).trans (((cell_far (p := ⟨gb294, _, none⟩) a4_2 _).trans (((cell_far (p := ⟨gb294, _, none⟩) a4_2 _).trans (((cell_far (p := ⟨gb294, _, none⟩) a4_2 _).trans (((cell_far (p := ⟨gb294, _, none⟩) a4_2 _).trans (hHeld.2.2.1)))))))))))), ((cell_far (p := ⟨gb294, _, none⟩) a4_3 _).trans (((cell_far (p := ⟨gb294, _, none⟩) a4_3 _).trans (((cell_far (p := ⟨gb294, _, none⟩) a4_3 _).trans (((cell_far (p := ⟨gb294, _, none⟩) a4_3 _).trans (((cell_far (p := ⟨gb294, _, none⟩) a4_3 _).trans (((cell_far (p := ⟨gb294, _, none⟩) a4_3 _).trans (hHeld.2.2.2.1)))))))))))), ((cell_far (p := ⟨gb294, _, none⟩) a4_4 _).trans (((cell_far (p := ⟨gb294, _, none⟩) a4_4 _).trans (((cell_far (p := ⟨gb294, _, none⟩) a4_4 _).trans (((cell_far (p := ⟨gb294, _, none⟩) a4_4 _).trans (((cell_far (p := ⟨gb294, _, none⟩) a4_4 _).trans (((cell_far (p := ⟨gb294, _, none⟩) a4_4 _).trans (hHeld.2.2.2.2.1)))))))))))), ((cell_far (p := ⟨gb294, _, none⟩) a4_5 _).trans (((cell_far (p := ⟨gb294, _, none⟩) a4_5 _).trans (((cell_far (p := ⟨gb294, _, none⟩) a4_5 _).trans (((cell_far (p := ⟨gb294, _, none⟩) a4_5 _).trans (((cell_far (p := ⟨gb294, _, none⟩) a4_5 _).trans (((cell_far (p := ⟨gb294, _, none⟩) a4_5 _).trans (hHeld.2.2.2.2.2.1)))))))))))), ((cell_far (p := ⟨gb294, _, none⟩) a4_6 _).trans (((cell_far (p := ⟨gb294, _, none⟩) a4_6 _).trans (((cell_far (p := ⟨gb294, _, none⟩) a4_6 _).trans (((cell_far (p := ⟨gb294, _, none⟩) a4_6 _).trans (((cell_far (p := ⟨gb294, _, none⟩) a4_6 _).trans (((cell_far (p := ⟨gb294, _, none⟩) a4_6 _).trans (hHeld.2.2.2.2.2.2.1)))))))))))), ((cell_far (p := ⟨gb294, _, none⟩) a4_7 _).trans (((cell_far (p := ⟨gb294, _, none⟩) a4_7 _).trans (((cell_far (p := ⟨gb294, _, none⟩) a4_7 _).trans (((cell_far (p := ⟨gb294, _, none⟩) a4_7 _).trans (((cell_far (p := ⟨gb294, _, none⟩) a4_7 _).trans (((cell_far (p := ⟨gb294, _, none⟩) a4_7 _).trans (hHeld.2.2.2.2.2.2.2))))))))))))⟩ (fun hHeld => ?_)
  clear hK K
  refine put 8 6 (bt 9 511) HT_ ?_
  refine done_ (done_of HT_.out (by kernel_rfl)) ?_
  try go_wp2
  refine bodyPost_ret (results_list (rs := [.cell 4 26, .cell 5 28, .tmp 6]) rfl (by simp) (.cell gb293 26 #[.slice Ao26 t300.length co26] (0, 0) _ rfl (sp BK293) Try.underlying26 rfl (by kernel_rfl) (.cell gb294 28 #[.int .i64 ((rd_T28 l0_0 a1).f0), .int .i64 ((rd_T28 l0_0 a1).f1), .int .i64 ((rd_T28 l0_0 a1).f2), .int .i64 ((rd_T28 l0_0 a1).f3), .int .i64 ((rd_T28 l0_0 a1).f4), .int .i64 ((rd_T28 l0_0 a1).f5)] (0, 0) _ rfl (sp BK294) Try.underlying28 rfl (by kernel_rfl) (.tmp .nil)))) rfl ?_
  exact ⟨_, se, by (with_reducible repeat (first | apply Kd.R_alloc | apply Kd.R_drewN | apply Kd.R_drew)); exact Kd.R_mono (Kd.R_far (p := ⟨gb294, 5, none⟩) (Kd.R_far (p := ⟨gb294, 4, none⟩) (Kd.R_far (p := ⟨gb294, 3, none⟩) (Kd.R_far (p := ⟨gb294, 2, none⟩) (Kd.R_far (p := ⟨gb294, 1, none⟩) (Kd.R_far (p := ⟨gb294, 0, none⟩) (Kd.R_far (p := ⟨gb293, 0, none⟩) (Kd.R_mono (Kd.R_types HO302.out BK293.out (by decide)) (fun k_ hk => (⟨hk, hk.1⟩ : _ ∧ k_ ≠ gb294))) (fun _ hk => hk.1.2) (.slice Ao26 t300.length co26)) (fun _ hk => hk.2) (.int .i64 ((rd_T28 l0_0 a1).f0))) (fun _ hk => hk.2) (.int .i64 ((rd_T28 l0_0 a1).f1))) (fun _ hk => hk.2) (.int .i64 ((rd_T28 l0_0 a1).f2))) (fun _ hk => hk.2) (.int .i64 ((rd_T28 l0_0 a1).f3))) (fun _ hk => hk.2) (.int .i64 ((rd_T28 l0_0 a1).f4))) (fun _ hk => hk.2) (.int .i64 ((rd_T28 l0_0 a1).f5))) (fun _ hk => trivial), sbw⟩
 ·replace H := im H
  simp only [Option.some.injEq, Prod.mk.injEq] at H
  obtain ⟨rfl, rfl, rfl, rfl, rfl, rfl, rfl, rfl⟩ := H
  go_enter Try.func11, Try.ntmps11
  go_wp2_with (first | ((with_reducible refine gd 2 rfl ?_); refine bx 2 #[.slice A0_0 l0_0.length c0_0] 26 ?_; intro gb292 hg w37 hbox hb; have GW292 := bz w hg; have GE292 := bz w hg; replace HB := bs hb; have BK292 := am hbox; clear hb hbox hg) | ((with_reducible refine gd 4 rfl ?_); refine bx 4 #[.slice none 0 0] 26 ?_; intro gb293 hg w38 hbox hb; have GW293 := bzw w hg; have GE293 := bzw w hg; replace HB := bsw hb; have BK293 := am hbox; have NB292_293 := nl BK292 hg; have NB293_292 := ng BK292 hg; replace BK292 := bb BK292 hb; clear hb hbox hg) | ((with_reducible refine gd 5 rfl ?_); refine bx 5 #[.int .i64 0, .int .i64 0, .int .i64 0, .int .i64 0, .int .i64 0, .int .i64 0] 28 ?_; intro gb294 hg w39 hbox hb; have GW294 := bzw w hg; have GE294 := bzw w hg; replace HB := bsw hb; have BK294 := am hbox; have NB292_294 := nl BK292 hg; have NB294_292 := ng BK292 hg; replace BK292 := bb BK292 hb; have NB293_294 := nl BK293 hg; have NB294_293 := ng BK293 hg; replace BK293 := bb BK293 hb; clear hb hbox hg; have hnb40 := NB292_293.out; have hnc40 := NB293_292.out; have hnb41 := NB292_294.out; have hnc41 := NB294_292.out; obtain ⟨hcz42_0, hfz42_0⟩ := cc1 BK292) | ((with_reducible refine gc 17 rfl ?_); refine gL (some 9) Try.func17 #[.agg #[.slice A0_0 l0_0.length c0_0]] ?_; (with_reducible refine (impl_cloneQueue.calls _ _ l0_0 t295 _ ?side1 ?side2 A3.out).mono ?_); (case side1 => exact cb HR0_0); (case side2 => exact HC0_0.out); rintro e w43 ⟨v296, rfl, ho0, hb⟩; refine ⟨_, rfl, ?_⟩; have HO297 := am (Kd.R_lower (Kd.R_newB ho0 (g := gb294) (o := .cells #[.int .i64 0, .int .i64 0, .int .i64 0, .int .i64 0, .int .i64 0, .int .i64 0] 28 (0, 0)) (sk BK294)) (below_size (sbw))); replace BK292 := bb BK292 hb; replace BK293 := bb BK293 hb; replace BK294 := bb BK294 hb; replace HB := bsw hb; (try clear hb); (try clear ho0)) | ((with_reducible refine gd 7 rfl ?_); refine bx 7 #[.slice none 0 0] 26 ?_; intro gb298 hg w44 hbox hb; replace HO297 := rb HO297 hb; have GW298 := bzw w hg; have GE298 := bzw w hg; replace HB := bsw hb; have BK298 := am hbox; have NB292_298 := nl BK292 hg; have NB298_292 := ng BK292 hg; replace BK292 := bb BK292 hb; have NB293_298 := nl BK293 hg; have NB298_293 := ng BK293 hg; replace BK293 := bb BK293 hb; have NB294_298 := nl BK294 hg; have NB298_294 := ng BK294 hg; replace BK294 := bb BK294 hb; clear hb hbox hg; obtain ⟨Ao45, co45, eo45⟩ := Kd.R_slice HO297.out; subst eo45; have hnb46 := NB298_292.out; have hnc46 := NB292_298.out; have hnb47 := NB298_293.out; have hnc47 := NB293_298.out; have hnb48 := NB298_294.out; have hnc48 := NB294_298.out; obtain ⟨hcz49_0, hfz49_0⟩ := cc1 BK298; obtain ⟨hcz50_0, hfz50_0⟩ := cc1 BK292) | ((with_reducible refine gc 21 rfl ?_); refine gL (some 14) Try.func21 #[.int .i64 a1, .int .i64 (l0_0.length : Int)] ?_; (with_reducible refine (impl_isIndex.calls a1 (l0_0.length : Int) false _ A4.out).mono ?_); rintro e w' ⟨rfl, ⟨nd, rfl⟩⟩; refine ⟨_, rfl, ?_⟩; have hnb51 := NB293_294.out; have hnc51 := NB294_293.out; obtain ⟨hcz52_0, hfz52_0⟩ := cc1 BK293; obtain ⟨hcz53_0, hcz53_1, hcz53_2, hcz53_3, hcz53_4, hcz53_5, hfz53_0, hfz53_1, hfz53_2, hfz53_3, hfz53_4, hfz53_5⟩ := cc6 BK294))
  refine bodyPost_ret (results_list (rs := [.cell 4 26, .cell 5 28, .tmp 6]) rfl (by simp) (.cell gb293 26 #[.slice Ao45 t295.length co45] (0, 0) _ rfl (sp BK293) Try.underlying26 rfl (by kernel_rfl) (.cell gb294 28 #[.int .i64 0, .int .i64 0, .int .i64 0, .int .i64 0, .int .i64 0, .int .i64 0] (0, 0) _ rfl (sp BK294) Try.underlying28 rfl (by kernel_rfl) (.tmp .nil)))) rfl ?_
  exact ⟨_, se, by (with_reducible repeat (first | apply Kd.R_alloc | apply Kd.R_drewN | apply Kd.R_drew)); exact Kd.R_mono (Kd.R_far (p := ⟨gb294, 5, none⟩) (Kd.R_far (p := ⟨gb294, 4, none⟩) (Kd.R_far (p := ⟨gb294, 3, none⟩) (Kd.R_far (p := ⟨gb294, 2, none⟩) (Kd.R_far (p := ⟨gb294, 1, none⟩) (Kd.R_far (p := ⟨gb294, 0, none⟩) (Kd.R_far (p := ⟨gb293, 0, none⟩) (Kd.R_far (p := ⟨gb298, 0, none⟩) (Kd.R_mono (Kd.R_types (Kd.R_types HO297.out BK298.out (by decide)) BK293.out (by decide)) (fun k_ hk => (⟨hk, hk.1.1.2⟩ : _ ∧ k_ ≠ gb294))) (fun _ hk => hk.1.1.2) (.slice Ao45 t295.length co45)) (fun _ hk => hk.1.2) (.slice Ao45 t295.length co45)) (fun _ hk => hk.2) (.int .i64 0)) (fun _ hk => hk.2) (.int .i64 0)) (fun _ hk => hk.2) (.int .i64 0)) (fun _ hk => hk.2) (.int .i64 0)) (fun _ hk => hk.2) (.int .i64 0)) (fun _ hk => hk.2) (.int .i64 0)) (fun _ hk => trivial), sbw⟩

def impl_CountClass.l0 : Nat → Int → Int → List (S28) → Int → Int → Option (Int)
  | 0, _, _, _, _, _ => none
  | k + 1, x1, x5, x9, x10, x11 => if x11 < x10 then (if 0 ≤ x11 then (if x11 < (x9.length : Int) then (if ((rd_T28 x9 x11).f5) = x1 then (impl_CountClass.l0 k x1 (wrap64 (x5 + 1)) x9 x10 (wrap64 (x11 + 1))) else (impl_CountClass.l0 k x1 x5 x9 x10 (wrap64 (x11 + 1)))) else (none)) else (none)) else (some x5)
def impl_CountClass.f (k : Nat) (l0_0 : List (S28)) (a1 : Int) : Option (Int) := impl_CountClass.l0 k a1 0 l0_0 (l0_0.length : Int) 0
theorem impl_CountClass.mono_l : ∀ k, (∀ y0 y1 y2 y3 y4, LeO (impl_CountClass.l0 k y0 y1 y2 y3 y4) (impl_CountClass.l0 (k + 1) y0 y1 y2 y3 y4))
  | 0 => fun _ _ _ _ _ r h => by simp [impl_CountClass.l0] at h
  | k + 1 => by
    have ih0 := impl_CountClass.mono_l k
    · intro y0 y1 y2 y3 y4
      unfold impl_CountClass.l0
      exact mo
theorem impl_CountClass.mono : ∀ a0 a1 k, LeO (impl_CountClass.f k a0 a1) (impl_CountClass.f (k + 1) a0 a1) := by
  intro a0 a1 k
  have ih0 := impl_CountClass.mono_l k
  unfold impl_CountClass.f
  exact mo
theorem impl_CountClass.calls (k : Nat) (A0_0 : Option Addr) (c0_0 : Nat) (l0_0 : List (S28)) (a1 : Int) (r : Int) (w : World) (hr0_0 : Kd.C k28 w A0_0 l0_0.length l0_0) (hc0_0 : l0_0.length ≤ c0_0) (h : impl_CountClass.f k l0_0 a1 = some r) :
    Calls Try.prog 12 #[.agg #[.slice A0_0 l0_0.length c0_0], .int .i64 a1] w fun e w' => e = .returned (.int .i64 r) ∧ Below w.heap.size w w' := by
 have hu26 := Try.underlying26
 have hu28 := Try.underlying28
 have HR0_0 := am hr0_0
 have HC0_0 := am hc0_0
 clear hr0_0 hc0_0
 have HB := am (Below.refl w.heap.size w)
 have H := h; unfold impl_CountClass.f at H
 clear h
 have H' := am H
 clear H
 go_enter Try.func12, Try.ntmps12
 go_wp2_with (first | ((with_reducible refine gd 2 rfl ?_); refine bx 2 #[.slice A0_0 l0_0.length c0_0] 26 ?_; intro gb304 hg w3 hbox hb; have GW304 := bz w hg; have GE304 := bz w hg; replace HB := bs hb; have BK304 := am hbox; clear hb hbox hg; obtain ⟨hcz4_0, hfz4_0⟩ := cc1 BK304))
 go_loopg [5, 11] k (fun kq v5 v11 w' => ∃ (x5_1 : Int) (x11_1 : Int), v5 = .int .i64 x5_1 ∧ v11 = .int .i64 x11_1 ∧ Aside0 (impl_CountClass.l0 kq a1 x5_1 l0_0 (l0_0.length : Int) x11_1 = some r) ∧ Aside0 (kq ≤ k) ∧ Aside0 (w'.heap[gb304]? = some (.cells #[(.slice A0_0 l0_0.length c0_0)] 26 (0, 0))) ∧ Aside0 (Below w.heap.size w w'))
 case atStart => exact ⟨(0), (0), sc, sc, H', kk0, ⟨sk BK304⟩, ⟨sbw⟩⟩
 case round =>
  clear H'
  try clear hcz4_0
  try clear hfz4_0
  obtain ⟨x5_1, x11_1, rfl, rfl, HA, HK1, BK304, HB⟩ := hrel
  cases gk with
  | zero => exact absurd HA.out (by simp [impl_CountClass.l0])
  | succ k1 =>
   have H := HA.out
   clear HA
   simp only [impl_CountClass.l0] at H
   obtain ⟨-, c5b0, H⟩ | ⟨-, c5b0, H⟩ := ic_ H
   ·obtain ⟨c6b0, H⟩ := id_ H
    obtain ⟨c7b0, H⟩ := id_ H
    obtain ⟨-, c8b0, c8b1, H⟩ | ⟨c8, c8b0, c8b1, H⟩ := ib_ H
    ·have H' := am H
     clear H
     obtain ⟨p305, q305, ad305, e305, _, _, _, _, _, _, hx305_0, hx305_1, hx305_2, hx305_3, hx305_4, hx305_5⟩ := aT_T28 HR0_0 HB x11_1
     cases e305
     go_wp2_with (first | ((with_reducible refine gd 7 rfl ?_); refine bx 7 #[.int .i64 0, .int .i64 0, .int .i64 0, .int .i64 0, .int .i64 0, .int .i64 0] 28 ?_; intro gb306 hg w9 hbox hb; have GW306 := bzw w hg; have GE306 := bzw w hg; replace HB := bsw hb; have BK306 := am hbox; have NB304_306 := nl BK304 hg; have NB306_304 := ng BK304 hg; replace BK304 := bb BK304 hb; clear hb hbox hg; have hnb10 := NB306_304.out; have hnc10 := NB304_306.out; obtain ⟨hcz11_0, hcz11_1, hcz11_2, hcz11_3, hcz11_4, hcz11_5, hfz11_0, hfz11_1, hfz11_2, hfz11_3, hfz11_4, hfz11_5⟩ := cc6 BK306))
     go_roundg k1
     case measure => have := HK1.out; omega
     case rel => exact ⟨(wrap64 (x5_1 + 1)), (wrap64 (x11_1 + 1)), sc, sc, H', kk1, ⟨sp BK304⟩, ⟨sbw⟩⟩
    ·have H' := am H
     clear H
     obtain ⟨p305, q305, ad305, e305, _, _, _, _, _, _, hx305_0, hx305_1, hx305_2, hx305_3, hx305_4, hx305_5⟩ := aT_T28 HR0_0 HB x11_1
     cases e305
     go_wp2_with (first | ((with_reducible refine gd 7 rfl ?_); refine bx 7 #[.int .i64 0, .int .i64 0, .int .i64 0, .int .i64 0, .int .i64 0, .int .i64 0] 28 ?_; intro gb306 hg w12 hbox hb; have GW306 := bzw w hg; have GE306 := bzw w hg; replace HB := bsw hb; have BK306 := am hbox; have NB304_306 := nl BK304 hg; have NB306_304 := ng BK304 hg; replace BK304 := bb BK304 hb; clear hb hbox hg; have hnb13 := NB306_304.out; have hnc13 := NB304_306.out; obtain ⟨hcz14_0, hcz14_1, hcz14_2, hcz14_3, hcz14_4, hcz14_5, hfz14_0, hfz14_1, hfz14_2, hfz14_3, hfz14_4, hfz14_5⟩ := cc6 BK306))
     go_roundg k1
     case measure => have := HK1.out; omega
     case rel => exact ⟨(x5_1), (wrap64 (x11_1 + 1)), sc, sc, H', kk1, ⟨sp BK304⟩, ⟨sbw⟩⟩
   ·obtain rfl := Option.some.inj H
    go_wp2
    go_ret
    exact ⟨se, sbw⟩

end Go.Proofs.Yticepodaobpdlaa.QFnQueues
