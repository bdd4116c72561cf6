/- What the Go functions of the law FnExactTakePacket come to, as Lean functions, and that they do: by a program of the session, out of the kit's printer. Conditions: none. (squeezed). -/
import Derived.Test.YtaciciobhfoglaaSq
import Derived.Deep.RegionLaw
import Derived.Test.YtaciciobhfoglaaQFnExactTakePacketx0
import Derived.Test.YtaciciobhfoglaaQFnExactTakePacketx2
namespace Go.Proofs.Ytaciciobhfoglaa.QFnExactTakePacket
open Go.RowKit Go.Proofs.YtaciciobhfoglaaW.PrintWords Go.Proofs.YtaciciobhfoglaaW.PrintLast Go.Proofs.YtaciciobhfoglaaW.PrintMore Go.Proofs.Ytaciciobhfoglaa.Open Go.Proofs.Ytaciciobhfoglaa.Sq
attribute [local go_sem] max2_int min2_int max_two min_two max_three min_three max_four min_four   -- for this text's walks alone
attribute [local go_sem] isSome_set
set_option linter.unusedVariables false
set_option linter.unusedSimpArgs false

/-! ### impl_Packet_82: function 82, at one element -/
section
variable {P : Program}
theorem impl_Packet_82.clear_run {α : Type} (d : Kd α) {W : World} (base : Nat) (t ty e : TypeId) (z : Value) (ht : P.underlying t = some (.slice e)) (hv : ∀ w, (zeroValue e).run P w = .ok z w) (hz : z.cells.size = d.sz) (h1 : ∀ u ∈ z.cells.toList, u.oneCell' = true)
    {g m c : Nat} {xs : List α} {ok : Nat → Prop} (HO : d.R e W base ok (.slice (some ⟨g, 0, none⟩) m c) xs) (hm : m < c) (c2 : Nat) :
    ∃ w1, (Builtin.clear_ #[t] ty #[.slice (some ⟨g, m * d.sz, none⟩) 1 c2]).run P W = .ok (.tuple #[]) w1 ∧ d.R e w1 base ok (.slice (some ⟨g, 0, none⟩) m c) xs ∧ W.grownBy w1 (some g) := by
  obtain ⟨hn, hnc, _⟩ := Kd.R_reads' HO
  obtain ⟨hok, inner, hown, hr⟩ := HO
  have hin : inner.length = m * d.sz := by rw [hr.1, hn]
  rcases hown.2 with ⟨hv', _⟩ | ⟨g', cap', cur, hv', hb, hh, hlc, hcm, hcs, htake⟩
  · cases hv'
  injection hv' with ha _ hc
  injection ha with ha
  injection ha with hg
  subst hg; subst hc
  rw [← hn] at htake
  have hz0 : (Builtin.zeroCells z.cells 1).toList = z.cells.toList := by
    simp only [Builtin.zeroCells]
    apply List.ext_getElem
    · simp
    · intro i hi1 hi2
      simp at hi1 hi2
      simp [Nat.mod_eq_of_lt hi2, hi2]
  have hle : (m + 1) * d.sz ≤ c * d.sz := Nat.mul_le_mul_right _ hm
  have hm1 : (m + 1) * d.sz = m * d.sz + d.sz := Nat.succ_mul _ _
  have hzl : z.cells.toList.length = d.sz := by rw [Array.length_toList, hz]
  have hfit : 0 + m * d.sz + z.cells.toList.length ≤ cur.size := by omega
  have hst := run_storeCells_cells (P := P) g (m * d.sz) z.cells.toList 0 W (fun j hj => by rw [cell_of_row W g _ cur e (0, 0) hh]; simp; omega) (fun j _ => blk_frozen hh _) h1
  rw [Nat.add_zero] at hst
  obtain ⟨cur', h3, h4, h5⟩ := setCells_row z.cells.toList (0 + m * d.sz) W cur hh hfit
  rw [Nat.zero_add] at h3 h5
  obtain ⟨s1, s2, s3, s4⟩ := setCells_same g z.cells.toList (m * d.sz) W
  have hfar : ∀ k', k' ≠ g → (W.setCells g (m * d.sz) z.cells.toList).heap[k']? = W.heap[k']? := fun k' hk' => setCells_far z.cells.toList _ k' hk'
  have hgo : ∀ q, some g = (Value.slice (some ⟨g, 0, none⟩) q c).ownBlock := fun q => by simp [Value.ownBlock]
  refine ⟨_, ?_, ⟨hok, inner, ⟨?_, .inr ⟨g, c, cur', by rw [← hn], hb, h3, hlc, hcm, by rw [h4, hcs], ?_⟩⟩, ?_⟩, ⟨s1, s2, s3, by rw [s4]; exact Nat.le_refl _, fun k' _ hk' => hfar k' (fun he => hk' (by rw [he]))⟩⟩
  rotate_left
  · exact hown.1
  · rw [← hn, h5]
    rw [← htake]
    have h6 : (cur.toList.take (m * d.sz)).length = m * d.sz := by rw [htake, hin]
    rw [List.append_assoc]
    exact List.take_left' h6
  · exact hr.imp_ (fun p q hp => d.M_move (fun k' hk' => hfar k' (fun he => hk'.2 (by rw [← hgo, he]))) hp)
  · simp [Builtin.clear_, run_underlying ht, hv, hz0, hst]
end
def impl_Packet_82.f (l0 : List S49) (a1 : Int) (a2 : Int) : Option (List S49) := if 0 ≤ a1 ∧ a1 < (l0.length : Int) ∧ a2 = a1 + 1 then some (l0.eraseIdx a1.toNat) else none
set_option maxHeartbeats 8000000 in
set_option maxRecDepth 100000 in
theorem impl_Packet_82.calls (P0_ : Nat → Prop) (u9000_ : Value) (l0 : List S49) (a1 : Int) (a2 : Int) (r : List S49) (w0 w : World) (hB : Below w0.heap.size w0 w) (ho0 : Kd.R k49 49 w w0.heap.size P0_ u9000_ l0) (h : impl_Packet_82.f l0 a1 a2 = some r) :
    Calls Try.prog 82 #[u9000_, .int .i64 a1, .int .i64 a2] w fun e w' => ∃ v0_ : Value, e = .returned (v0_) ∧ Kd.R k49 49 w' w0.heap.size (fun k_ => (P0_ k_ ∨ w.heap.size ≤ k_)) v0_ r ∧ Below w0.heap.size w0 w' ∧ Kept w w' (fun k_ => P0_ k_) := by
 have hu := Try.underlying39
 unfold impl_Packet_82.f at h
 by_cases hm : 0 ≤ a1 ∧ a1 < (l0.length : Int) ∧ a2 = a1 + 1
 rotate_left
 ·rw [if_neg hm] at h
  cases h
 rw [if_pos hm] at h
 obtain rfl := Option.some.inj h
 obtain ⟨k, rfl⟩ := Int.eq_ofNat_of_zero_le hm.1
 have hk : k < l0.length := by omega
 obtain rfl : a2 = ((k + 1 : Nat) : Int) := by omega
 obtain ⟨A, c, rfl⟩ := Kd.R_slice ho0
 obtain ⟨g, cap_, ev_, _⟩ := Kd.R_form ho0 (by omega)
 injection ev_ with ea_ _ ec_
 subst ea_
 obtain rfl : c = cap_ := ec_
 have hlc := (Kd.R_reads' ho0).2.1
 have hP := ho0.1
 obtain ⟨m, hml⟩ : ∃ m, l0.length = m + 1 := ⟨l0.length - 1, by omega⟩
 rw [hml] at ho0 hlc hk ⊢
 have HO := Aside0.mk ho0
 have HB := Aside0.mk hB
 have HG : Aside0 (P0_ g) := ⟨hP g (by simp [Value.ownBlock])⟩
 have HM := Aside0.mk hml
 clear ho0 hB hP h hm hml
 have hkc : k ≤ c := by omega
 have hkc1 : k + 1 ≤ c := by omega
 have hkl : k + 1 ≤ m + 1 := by omega
 have hkk : k ≤ k + 1 := by omega
 have hne : ¬ (k = k + 1) := by omega
 have hki2 : (k : Int) ≤ (k : Int) + 1 := by omega
 have hk0 : (0 : Int) ≤ (k : Int) + 1 := by omega
 have hki : (k : Int) + 1 ≤ (m : Int) + 1 := by omega
 have hkj : 0 ≤ (k : Int) + 1 ∧ (k : Int) + 1 ≤ (m : Int) + 1 := ⟨hk0, hki⟩
 have hcm : ¬ c = m := by omega
 have hmc : m ≤ c := by omega
 have hmm : m ≤ m + 1 := by omega
 have hz : ∀ w, (zeroValue 49).run Try.prog w = .ok (.agg #[.int .i64 0, .int .i64 0, .int .i64 0, .int .i64 0, .int .i64 0, .int .i64 0]) w := fun w => rfl
 by_cases hq : c = k + 1
 ·subst hq
  go_enter Try.func82, Try.ntmps82
  go_wp2_with fail
  go_region_law (refine Kd.R_delete_step k49 (w0 := w0) w0.heap.size (by rfl) (.tmp 22) (.tmp 25) 39 49 rfl Try.underlying39 (by kernel_rfl) (g := g) (n := m + 1) (c := k + 1) (k := k) rfl rfl ?hA ?hm (Kd.R_drew HO.out) ?hk (below_drew1 HB.out) ?hs ?_; (case hA => simp [Addr.add, show k49.sz = 6 from rfl]; done); (case hm => omega); (case hk => omega); (case hs => exact HB.out.size); intro w1 ho hb hg)
  have hD : Kept w w1 (fun k_ => P0_ k_) := Kept.of_grown hg (Kept.refl _ _) (fun k_ e_ => by injection e_ with e_; subst e_; exact .inl HG.out)
  rw [Nat.add_sub_cancel] at ho
  obtain ⟨w2, hcl, ho2, hg2⟩ := impl_Packet_82.clear_run (P := Try.prog) k49 w0.heap.size 39 0 49 _ hu hz rfl (by decide) ho (by omega) (k + 1 - m)
  replace hcl : (Builtin.clear_ #[39] 0 #[.slice (some ⟨g, m * 6, none⟩) 1 (k + 1 - m)]).run Try.prog w1 = .ok (.tuple #[]) w2 := hcl
  have hb2 := hb.grown hg2 (Nat.le_trans HB.out.size hD.1) (fun k_ e_ => by injection e_ with e_; subst e_; exact Kd.R_base HO.out _ (by simp [Value.ownBlock]))
  have hD2 : Kept w w2 (fun k_ => P0_ k_) := Kept.of_grown hg2 hD (fun k_ e_ => by injection e_ with e_; subst e_; exact .inl HG.out)
  clear ho hD hg hg2 hb
  have HO2 := Aside0.mk ho2
  have HB2 := Aside0.mk hb2
  have HD2 := Aside0.mk hD2
  clear ho2 hb2 hD2
  go_wp2
  go_ret
  refine ⟨_, rfl, ?_, HB2.out, HD2.out⟩
  exact Kd.R_mono (ok := P0_) HO2.out (fun _ h_ => Or.inl h_)
 ·go_enter Try.func82, Try.ntmps82
  go_wp2_with fail
  go_region_law (refine Kd.R_delete_step k49 (w0 := w0) w0.heap.size (by rfl) (.tmp 22) (.tmp 25) 39 49 rfl Try.underlying39 (by kernel_rfl) (g := g) (n := m + 1) (c := c) (k := k) rfl rfl ?hA ?hm (Kd.R_drew HO.out) ?hk (below_drew1 HB.out) ?hs ?_; (case hA => simp [hq, Addr.add, show k49.sz = 6 from rfl]; done); (case hm => omega); (case hk => omega); (case hs => exact HB.out.size); intro w1 ho hb hg)
  have hD : Kept w w1 (fun k_ => P0_ k_) := Kept.of_grown hg (Kept.refl _ _) (fun k_ e_ => by injection e_ with e_; subst e_; exact .inl HG.out)
  rw [Nat.add_sub_cancel] at ho
  obtain ⟨w2, hcl, ho2, hg2⟩ := impl_Packet_82.clear_run (P := Try.prog) k49 w0.heap.size 39 0 49 _ hu hz rfl (by decide) ho (by omega) (c - m)
  replace hcl : (Builtin.clear_ #[39] 0 #[.slice (some ⟨g, m * 6, none⟩) 1 (c - m)]).run Try.prog w1 = .ok (.tuple #[]) w2 := hcl
  have hb2 := hb.grown hg2 (Nat.le_trans HB.out.size hD.1) (fun k_ e_ => by injection e_ with e_; subst e_; exact Kd.R_base HO.out _ (by simp [Value.ownBlock]))
  have hD2 : Kept w w2 (fun k_ => P0_ k_) := Kept.of_grown hg2 hD (fun k_ e_ => by injection e_ with e_; subst e_; exact .inl HG.out)
  clear ho hD hg hg2 hb
  have HO2 := Aside0.mk ho2
  have HB2 := Aside0.mk hb2
  have HD2 := Aside0.mk hD2
  clear ho2 hb2 hD2
  go_wp2
  go_ret
  refine ⟨_, rfl, ?_, HB2.out, HD2.out⟩
  exact Kd.R_mono (ok := P0_) HO2.out (fun _ h_ => Or.inl h_)

/-! ### impl_TakePacket: function 31 -/
def impl_TakePacket.f (l0_0 : List (S49)) (a1 : Int) : Option ((List (S49)) × Int × Int × Int × Int × Int × Int × Bool) := (impl_cloneQueue.f l0_0).bind fun t181 => ((impl_isIndex.f a1 (l0_0.length : Int)).bind fun t185 => (if t185 = true then ((impl_Packet_82.f t181 a1 (wrap64 (a1 + 1))).bind fun t186 => (if 0 ≤ a1 then (if a1 < (l0_0.length : Int) then (some (t186, (rd_T49 l0_0 a1).f0, (rd_T49 l0_0 a1).f1, (rd_T49 l0_0 a1).f2, (rd_T49 l0_0 a1).f3, (rd_T49 l0_0 a1).f4, (rd_T49 l0_0 a1).f5, true)) else (none)) else (none))) else (some (t181, 0, 0, 0, 0, 0, 0, false))))
def impl_TakePacket.T5 : Bool × List (List Nat × List Nat) := (true, [([], []), ([], []), ([1], [1]), ([], []), ([2, 3], [2, 3]), ([4], [4]), ([0, 0], [0]), ([5, 6, 0, 1, 2, 3, 4, 5, 6], [5]), ([7, 0, 1, 2, 3, 4, 5, 6, 7], [])])
def impl_TakePacket.B5 : List Nat := [0, 0, 2, 0, 14, 30, 1, 127, 255]
theorem impl_TakePacket.tab5 : rtab .any (opsOf Try.f31 5) = impl_TakePacket.T5 := by kernel_rfl
theorem impl_TakePacket.bits5 : waitsOk impl_TakePacket.T5.2 impl_TakePacket.B5 = true := by kernel_rfl
set_option maxHeartbeats 8000000 in
set_option maxRecDepth 100000 in
theorem impl_TakePacket.calls (A0_0 : Option Addr) (c0_0 : Nat) (l0_0 : List (S49)) (a1 : Int) (r1 : List (S49)) (r2 : Int) (r3 : Int) (r4 : Int) (r5 : Int) (r6 : Int) (r7 : Int) (r8 : Bool) (w : World) (hr0_0 : Kd.C k49 w A0_0 l0_0.length l0_0) (hc0_0 : l0_0.length ≤ c0_0) (h : impl_TakePacket.f l0_0 a1 = some (r1, r2, r3, r4, r5, r6, r7, r8)) :
    Calls Try.prog 31 #[.agg #[.slice A0_0 l0_0.length c0_0], .int .i64 a1] w fun e w' => ∃ v0_ : Value, e = .returned (.tuple #[.agg #[v0_], .agg #[.int .i64 r2, .int .i64 r3, .int .i64 r4, .int .i64 r5, .int .i64 r6, .int .i64 r7], .bool r8]) ∧ Kd.R k49 49 w' w.heap.size (fun _ => True) v0_ r1 ∧ Below w.heap.size w w' := by
 have hu41 := Try.underlying41
 have hu49 := Try.underlying49
 have HR0_0 := Aside0.mk hr0_0
 have HC0_0 := Aside0.mk hc0_0
 clear hr0_0 hc0_0
 have HB := Aside0.mk (Below.refl w.heap.size w)
 have H : ((impl_cloneQueue.f l0_0).bind fun t181 => ((impl_isIndex.f a1 (l0_0.length : Int)).bind fun t185 => (if t185 = true then ((impl_Packet_82.f t181 a1 (wrap64 (a1 + 1))).bind fun t186 => (if 0 ≤ a1 then (if a1 < (l0_0.length : Int) then (some (t186, (rd_T49 l0_0 a1).f0, (rd_T49 l0_0 a1).f1, (rd_T49 l0_0 a1).f2, (rd_T49 l0_0 a1).f3, (rd_T49 l0_0 a1).f4, (rd_T49 l0_0 a1).f5, true)) else (none)) else (none))) else (some (t181, 0, 0, 0, 0, 0, 0, false))))) = some (r1, r2, r3, r4, r5, r6, r7, r8) := h
 clear h
 obtain ⟨t181, A3, H⟩ := bnd H
 obtain ⟨t185, A4, H⟩ := bnd H
 obtain rfl | rfl := tt t185
 ·replace H := ip H
  obtain ⟨t186, A6, H⟩ := bnd H
  obtain ⟨c7b0, H⟩ := id_ H
  obtain ⟨c8b0, H⟩ := id_ H
  simp only [Option.some.injEq, Prod.mk.injEq] at H
  obtain ⟨rfl, rfl, rfl, rfl, rfl, rfl, rfl, rfl⟩ := H
  go_enter Try.func31, Try.ntmps31
  try go_wp2_with (first | ((with_reducible refine gate_dst (N := 2) rfl ?_); refine bx 2 #[.slice A0_0 l0_0.length c0_0] 41 ?_; intro gb178 hg w9 hbox hb; have GW178 := bz w hg; have GE178 := bz w hg; replace HB := bs hb; have BK178 := Aside0.mk hbox; clear hb hbox hg) | ((with_reducible refine gate_dst (N := 4) rfl ?_); refine bx 4 #[.slice none 0 0] 41 ?_; intro gb179 hg w10 hbox hb; have GW179 := bzw w hg; have GE179 := bzw w hg; replace HB := bsw hb; have BK179 := Aside0.mk hbox; have NB178_179 := nl BK178 hg; have NB179_178 := ng BK178 hg; replace BK178 := bb BK178 hb; clear hb hbox hg) | ((with_reducible refine gate_dst (N := 5) rfl ?_); refine bx 5 #[.int .i64 0, .int .i64 0, .int .i64 0, .int .i64 0, .int .i64 0, .int .i64 0] 49 ?_; intro gb180 hg w11 hbox hb; have GW180 := bzw w hg; have GE180 := bzw w hg; replace HB := bsw hb; have BK180 := Aside0.mk hbox; have NB178_180 := nl BK178 hg; have NB180_178 := ng BK178 hg; replace BK178 := bb BK178 hb; have NB179_180 := nl BK179 hg; have NB180_179 := ng BK179 hg; replace BK179 := bb BK179 hb; clear hb hbox hg; have hnb12 := NB178_179.out; have hnc12 := NB179_178.out; have hnb13 := NB178_180.out; have hnc13 := NB180_178.out; obtain ⟨hcz14_0, hfz14_0⟩ := cc1 BK178) | ((with_reducible refine gate_callee (f := 80) rfl ?_); refine gL (some 9) Try.func80 #[.agg #[.slice A0_0 l0_0.length c0_0]] ?_; (with_reducible refine (impl_cloneQueue.calls _ _ l0_0 t181 _ ?side1 ?side2 A3.out).mono ?_); (case side1 => exact cb HR0_0); (case side2 => exact HC0_0.out); rintro e w15 ⟨v182, rfl, ho0, hb⟩; refine ⟨_, rfl, ?_⟩; have HO183 := Aside0.mk (Kd.R_lower (Kd.R_newB ho0 (g := gb180) (o := .cells #[.int .i64 0, .int .i64 0, .int .i64 0, .int .i64 0, .int .i64 0, .int .i64 0] 49 (0, 0)) (sk BK180)) (below_size (sbw))); replace BK178 := bb BK178 hb; replace BK179 := bb BK179 hb; replace BK180 := bb BK180 hb; replace HB := bsw hb; (try clear hb); (try clear hb2); (try clear hk); (try clear hi); (try clear ho0)) | ((with_reducible refine gate_dst (N := 7) rfl ?_); refine bx 7 #[.slice none 0 0] 41 ?_; intro gb184 hg w16 hbox hb; replace HO183 := Aside0.mk (Kd.R_below (sr HO183) hb); have GW184 := bzw w hg; have GE184 := bzw w hg; replace HB := bsw hb; have BK184 := Aside0.mk hbox; have NB178_184 := nl BK178 hg; have NB184_178 := ng BK178 hg; replace BK178 := bb BK178 hb; have NB179_184 := nl BK179 hg; have NB184_179 := ng BK179 hg; replace BK179 := bb BK179 hb; have NB180_184 := nl BK180 hg; have NB184_180 := ng BK180 hg; replace BK180 := bb BK180 hb; clear hb hbox hg; obtain ⟨Ao17, co17, eo17⟩ := Kd.R_slice HO183.out; subst eo17; have hnb18 := NB184_178.out; have hnc18 := NB178_184.out; have hnb19 := NB184_179.out; have hnc19 := NB179_184.out; have hnb20 := NB184_180.out; have hnc20 := NB180_184.out; obtain ⟨hcz21_0, hfz21_0⟩ := cc1 BK184) | ((with_reducible refine gate_store (t := 41) (p := 7) rfl ?_); refine store_event (t := 41) (p := 7) (v := ?vo_w22) (w1 := (w16.setCell ⟨gb184, 0, none⟩ (.slice Ao17 t181.length co17))) ?hg ?ho ?hn ?hr ?_; (case ho => rfl); (case hg => rfl); (case hn => rfl); (case hr => first | (go_simp; done) | (go_simp; rfl)); intro w22 hw; replace HO183 : Aside0 (Kd.R k49 49 w22 w.heap.size (fun k_ => k_ ≠ gb180) (.slice Ao17 t181.length co17) t181) := ⟨(by rw [hw]; exact (by (with_reducible repeat (first | apply Kd.R_alloc | apply Kd.R_drewN | apply Kd.R_drew)); exact Kd.R_mono (Kd.R_far (p := ⟨gb184, 0, none⟩) (Kd.R_types HO183.out BK184.out (by decide)) (fun _ hk => hk.2) (.slice Ao17 t181.length co17)) (fun _ hk => hk.1.2)))⟩; replace BK178 : Aside0 (w22.heap[gb178]? = some (.cells #[.slice A0_0 l0_0.length c0_0] 41 (0, 0))) := ⟨(by rw [hw]; exact (sp BK178))⟩; replace BK179 : Aside0 (w22.heap[gb179]? = some (.cells #[.slice none 0 0] 41 (0, 0))) := ⟨(by rw [hw]; exact (sp BK179))⟩; replace BK180 : Aside0 (w22.heap[gb180]? = some (.cells #[.int .i64 0, .int .i64 0, .int .i64 0, .int .i64 0, .int .i64 0, .int .i64 0] 49 (0, 0))) := ⟨(by rw [hw]; exact (sp BK180))⟩; replace BK184 : Aside0 (w22.heap[gb184]? = some (.cells #[.slice Ao17 t181.length co17] 41 (0, 0))) := ⟨(by rw [hw]; exact (sp BK184))⟩; replace HB : Aside0 (Below w.heap.size w w22) := ⟨(by rw [hw]; exact (sbw))⟩; clear hw; obtain ⟨hcz23_0, hfz23_0⟩ := cc1 BK178) | ((with_reducible refine gate_callee (f := 81) rfl ?_); refine gL (some 14) Try.func81 #[.int .i64 a1, .int .i64 (l0_0.length : Int)] ?_; (with_reducible refine (impl_isIndex.calls a1 (l0_0.length : Int) true _ A4.out).mono ?_); rintro e w' ⟨rfl, ⟨nd, rfl⟩⟩; refine ⟨_, rfl, ?_⟩; obtain ⟨hcz24_0, hfz24_0⟩ := cc1 BK184) | ((with_reducible refine gate_callee (f := 82) rfl ?_); refine gL (some 23) Try.func82 #[.slice Ao17 t181.length co17, .int .i64 a1, .int .i64 (wrap64 (a1 + 1))] ?_; (with_reducible refine (impl_Packet_82.calls (fun k_ => some k_ = (.slice Ao17 t181.length co17 : Value).ownBlock) (.slice Ao17 t181.length co17) t181 a1 (wrap64 (a1 + 1)) t186 w _ ?side1 ?side2 A6.out).mono ?_); (case side1 => repeat (first | (with_reducible first | exact HB.out | apply below_alloc | apply pw_below_drewN | apply below_drew1 | refine below_set ?_ GE178.out | refine below_set ?_ GE179.out | refine below_set ?_ GE180.out | refine below_set ?_ GE184.out) | exact HB.out)); (case side2 => exact Kd.R_tight rfl HO183.out); rintro e w25 ⟨v187, rfl, ho0, hb, hkp⟩; refine ⟨_, rfl, ?_⟩; replace BK178 := Aside0.mk (blk_kept (sk BK178) hkp (fun hs_ => (fun e_ => (Kd.R_ne HO183.out BK178.out (by decide)) e_) hs_)); replace BK179 := Aside0.mk (blk_kept (sk BK179) hkp (fun hs_ => (fun e_ => (Kd.R_ne HO183.out BK179.out (by decide)) e_) hs_)); replace BK184 := Aside0.mk (blk_kept (sk BK184) hkp (fun hs_ => (fun e_ => (Kd.R_ne HO183.out BK184.out (by decide)) e_) hs_)); have HO188 := Aside0.mk (Kd.R_mono (ok' := fun k_ => k_ ≠ gb180) ho0 (fun k_ hk_ => Or.elim hk_ (fun hs_ => fun e_ => (Kd.R_away HO183.out (fun _ hk => hk)) (by rw [← e_]; exact hs_)) (fun hn_ => (Kd.freshB (g := gb180) (o := .cells #[.int .i64 0, .int .i64 0, .int .i64 0, .int .i64 0, .int .i64 0, .int .i64 0] 49 (0, 0)) (sk BK180) k_ hn_)))); replace BK180 := Aside0.mk (blk_kept (sk BK180) hkp (fun hs_ => (fun e_ => (Kd.R_away HO183.out (fun _ hk => hk)) e_) hs_)); replace HB := Aside0.mk hb; clear HO183; (try clear hb); (try clear hkp); (try clear ho0); obtain ⟨Ao26, co26, eo26⟩ := Kd.R_slice HO188.out; subst eo26; obtain ⟨hcz27_0, hfz27_0⟩ := cc1 BK184))
  have n0_ : Aside0 (Kd.R k49 49 (w25.setCell ⟨gb184, 0, none⟩ (.slice Ao26 t186.length co26)) w.heap.size (fun k_ => k_ ≠ gb180) (.slice Ao26 t186.length co26) t186) := ⟨by (with_reducible repeat (first | apply Kd.R_alloc | apply Kd.R_drewN | apply Kd.R_drew)); exact Kd.R_mono (Kd.R_far (p := ⟨gb184, 0, none⟩) (Kd.R_types HO188.out BK184.out (by decide)) (fun _ hk => hk.2) (.slice Ao26 t186.length co26)) (fun _ hk => hk.1)⟩
  have n1_ : Aside0 ((w25.setCell ⟨gb184, 0, none⟩ (.slice Ao26 t186.length co26)).heap[gb178]? = some (.cells #[.slice A0_0 l0_0.length c0_0] 41 (0, 0))) := ⟨sp BK178⟩
  have n2_ : Aside0 ((w25.setCell ⟨gb184, 0, none⟩ (.slice Ao26 t186.length co26)).heap[gb179]? = some (.cells #[.slice none 0 0] 41 (0, 0))) := ⟨sp BK179⟩
  have n3_ : Aside0 ((w25.setCell ⟨gb184, 0, none⟩ (.slice Ao26 t186.length co26)).heap[gb180]? = some (.cells #[.int .i64 0, .int .i64 0, .int .i64 0, .int .i64 0, .int .i64 0, .int .i64 0] 49 (0, 0))) := ⟨sp BK180⟩
  have n4_ : Aside0 ((w25.setCell ⟨gb184, 0, none⟩ (.slice Ao26 t186.length co26)).heap[gb184]? = some (.cells #[.slice Ao26 t186.length co26] 41 (0, 0))) := ⟨sp BK184⟩
  have n5_ : Aside0 (Below w.heap.size w (w25.setCell ⟨gb184, 0, none⟩ (.slice Ao26 t186.length co26))) := ⟨sbw⟩
  (try clear HO188)
  (try clear BK178)
  (try clear BK179)
  (try clear BK180)
  (try clear BK184)
  (try clear HB)
  generalize (w25.setCell ⟨gb184, 0, none⟩ (.slice Ao26 t186.length co26)) = w28 at n0_ n1_ n2_ n3_ n4_ n5_ ⊢
  have HO188 := n0_
  have BK178 := n1_
  have BK179 := n2_
  have BK180 := n3_
  have BK184 := n4_
  have HB := n5_
  clear n0_ n1_ n2_ n3_ n4_ n5_
  replace HO188 := Aside0.mk (Kd.R_drew HO188.out)
  replace BK178 := Aside0.mk (blk_drew BK178.out)
  replace BK179 := Aside0.mk (blk_drew BK179.out)
  replace BK180 := Aside0.mk (blk_drew BK180.out)
  replace BK184 := Aside0.mk (blk_drew BK184.out)
  replace HB := Aside0.mk (below_drew1 HB.out)
  obtain ⟨p189, q189, ad189, e189, hw189_0, hw189_1, hw189_2, hw189_3, hw189_4, hw189_5, hx189_0, hx189_1, hx189_2, hx189_3, hx189_4, hx189_5⟩ := aT_T49 HR0_0 HB a1
  cases e189
  refine start_ (n := 9) (S := fun w' => w'.cell? ⟨gb184, 0, none⟩ = some (.slice Ao26 t186.length co26) ∧ w'.cell? ⟨gb178, 0, none⟩ = some (.slice (some ad189) l0_0.length c0_0) ∧ w'.cell? (ad189.add ((a1).toNat * 6)) = some (.int .i64 ((rd_T49 l0_0 a1).f0)) ∧ w'.cell? ⟨(ad189.add ((a1).toNat * 6)).block, (ad189.add ((a1).toNat * 6)).off + 1, none⟩ = some (.int .i64 ((rd_T49 l0_0 a1).f1)) ∧ w'.cell? ⟨(ad189.add ((a1).toNat * 6)).block, (ad189.add ((a1).toNat * 6)).off + 2, none⟩ = some (.int .i64 ((rd_T49 l0_0 a1).f2)) ∧ w'.cell? ⟨(ad189.add ((a1).toNat * 6)).block, (ad189.add ((a1).toNat * 6)).off + 3, none⟩ = some (.int .i64 ((rd_T49 l0_0 a1).f3)) ∧ w'.cell? ⟨(ad189.add ((a1).toNat * 6)).block, (ad189.add ((a1).toNat * 6)).off + 4, none⟩ = some (.int .i64 ((rd_T49 l0_0 a1).f4)) ∧ w'.cell? ⟨(ad189.add ((a1).toNat * 6)).block, (ad189.add ((a1).toNat * 6)).off + 5, none⟩ = some (.int .i64 ((rd_T49 l0_0 a1).f5))) (ds := []) #[false, false, false, false, false, false, false, false, false] (by kernel_rfl) rfl rfl ⟨bc0 BK184, bc0 BK178, (hb_ HB hw189_0), (hb_ HB hw189_1), (hb_ HB hw189_2), (hb_ HB hw189_3), (hb_ HB hw189_4), (hb_ HB hw189_5)⟩ (fun hHeld => ?_); refine with_tabW impl_TakePacket.tab5 impl_TakePacket.bits5 (fun HT_ HW_ => ?_)
  generalize w28.drew = w29 at HO188 BK178 BK179 BK180 BK184 HB hx189_0 hx189_1 hx189_2 hx189_3 hx189_4 hx189_5 hHeld ⊢
  refine put 1 26 #[false, true, false, false, false, false, false, false, false] HT_ ?_
  refine put 3 28 #[false, true, false, true, false, false, false, false, false] HT_ ?_
  refine tat8 0 25 #[true, true, false, true, false, false, false, false, false] HT_ HW_ hHeld ?_
  refine tat8 2 27 #[true, true, true, true, false, false, false, false, false] HT_ HW_ hHeld ?_
  refine put 4 29 #[true, true, true, true, true, false, false, false, false] HT_ ?_
  refine tat8 5 30 #[true, true, true, true, true, true, false, false, false] HT_ HW_ hHeld ?_
  refine one_ (i := 6) (N := none) #[true, true, true, true, true, true, true, false, false] rfl rfl (one_of HT_.out (by kernel_rfl)) (by decide) (fun K hK => ?_)
  obtain ⟨hs30, hfs30⟩ := cc1 BK179
  have hns30_0 := NB178_179.out
  have hns30_2 := NB180_179.out
  have hns30_3 := NB184_179.out
  have hms30_0 := NB179_178.out
  have hms30_2 := NB179_180.out
  have hms30_3 := NB179_184.out
  refine skip_ (w1 := ?_) (by rfl) rfl ?_ ?_
  rotate_left
  ·go_simp
   rfl
  refine hK.out _ _ ⟨((cell_far (p := ⟨gb179, _, none⟩) NB184_179.out _).trans (hHeld.1)), ((cell_far (p := ⟨gb179, _, none⟩) NB178_179.out _).trans (hHeld.2.1)), ((cell_far (p := ⟨gb179, _, none⟩) (by first | exact Nat.ne_of_lt (Nat.lt_of_lt_of_le (by have := World.block_lt_of_cell? _ _ hw189_0; first | rwa [add_block] at this | exact this) GW179.out) | (rw [add_block]; exact Nat.ne_of_lt (Nat.lt_of_lt_of_le (by have := World.block_lt_of_cell? _ _ hw189_0; first | rwa [add_block] at this | exact this) GW179.out)) | (show (Addr.add _ _).block ≠ _; rw [add_block]; exact Nat.ne_of_lt (Nat.lt_of_lt_of_le (by have := World.block_lt_of_cell? _ _ hw189_0; first | rwa [add_block] at this | exact this) GW179.out)) | (dsimp only; exact Nat.ne_of_lt (Nat.lt_of_lt_of_le (by have := World.block_lt_of_cell? _ _ hw189_0; first | rwa [add_block] at this | exact this) GW179.out))) _).trans (hHeld.2.2.1)), ((cell_far (p := ⟨gb179, _, none⟩) (by first | exact Nat.ne_of_lt (Nat.lt_of_lt_of_le (by have := World.block_lt_of_cell? _ _ hw189_1; first | rwa [add_block] at this | exact this) GW179.out) | (rw [add_block]; exact Nat.ne_of_lt (Nat.lt_of_lt_of_le (by have := World.block_lt_of_cell? _ _ hw189_1; first | rwa [add_block] at this | exact this) GW179.out)) | (show (Addr.add _ _).block ≠ _; rw [add_block]; exact Nat.ne_of_lt (Nat.lt_of_lt_of_le (by have := World.block_lt_of_cell? _ _ hw189_1; first | rwa [add_block] at this | exact this) GW179.out)) | (dsimp only; exact Nat.ne_of_lt (Nat.lt_of_lt_of_le (by have := World.block_lt_of_cell? _ _ hw189_1; first | rwa [add_block] at this | exact this) GW179.out))) _).trans (hHeld.2.2.2.1)), ((cell_far (p := ⟨gb179, _, none⟩) (by first | exact Nat.ne_of_lt (Nat.lt_of_lt_of_le (by have := World.block_lt_of_cell? _ _ hw189_2; first | rwa [add_block] at this | exact this) GW179.out) | (rw [add_block]; exact Nat.ne_of_lt (Nat.lt_of_lt_of_le (by have := World.block_lt_of_cell? _ _ hw189_2; first | rwa [add_block] at this | exact this) GW179.out)) | (show (Addr.add _ _).block ≠ _; rw [add_block]; exact Nat.ne_of_lt (Nat.lt_of_lt_of_le (by have := World.block_lt_of_cell? _ _ hw189_2; first | rwa [add_block] at this | exact this) GW179.out)) | (dsimp only; exact Nat.ne_of_lt (Nat.lt_of_lt_of_le (by have := World.block_lt_of_cell? _ _ hw189_2; first | rwa [add_block] at this | exact this) GW179.out))) _).trans (hHeld.2.2.2.2.1)), ((cell_far (p := ⟨gb179, _, none⟩) (by first | exact Nat.ne_of_lt (Nat.lt_of_lt_of_le (by have := World.block_lt_of_cell? _ _ hw189_3; first | rwa [add_block] at this | exact this) GW179.out) | (rw [add_block]; exact Nat.ne_of_lt (Nat.lt_of_lt_of_le (by have := World.block_lt_of_cell? _ _ hw189_3; first | rwa [add_block] at this | exact this) GW179.out)) | (show (Addr.add _ _).block ≠ _; rw [add_block]; exact Nat.ne_of_lt (Nat.lt_of_lt_of_le (by have := World.block_lt_of_cell? _ _ hw189_3; first | rwa [add_block] at this | exact this) GW179.out)) | (dsimp only; exact Nat.ne_of_lt (Nat.lt_of_lt_of_le (by have := World.block_lt_of_cell? _ _ hw189_3; first | rwa [add_block] at this | exact this) GW179.out))) _).trans (hHeld.2.2.2.2.2.1)), ((cell_far (p := ⟨gb179, _, none⟩) (by first | exact Nat.ne_of_lt (Nat.lt_of_lt_of_le (by have := World.block_lt_of_cell? _ _ hw189_4; first | rwa [add_block] at this | exact this) GW179.out) | (rw [add_block]; exact Nat.ne_of_lt (Nat.lt_of_lt_of_le (by have := World.block_lt_of_cell? _ _ hw189_4; first | rwa [add_block] at this | exact this) GW179.out)) | (show (Addr.add _ _).block ≠ _; rw [add_block]; exact Nat.ne_of_lt (Nat.lt_of_lt_of_le (by have := World.block_lt_of_cell? _ _ hw189_4; first | rwa [add_block] at this | exact this) GW179.out)) | (dsimp only; exact Nat.ne_of_lt (Nat.lt_of_lt_of_le (by have := World.block_lt_of_cell? _ _ hw189_4; first | rwa [add_block] at this | exact this) GW179.out))) _).trans (hHeld.2.2.2.2.2.2.1)), ((cell_far (p := ⟨gb179, _, none⟩) (by first | exact Nat.ne_of_lt (Nat.lt_of_lt_of_le (by have := World.block_lt_of_cell? _ _ hw189_5; first | rwa [add_block] at this | exact this) GW179.out) | (rw [add_block]; exact Nat.ne_of_lt (Nat.lt_of_lt_of_le (by have := World.block_lt_of_cell? _ _ hw189_5; first | rwa [add_block] at this | exact this) GW179.out)) | (show (Addr.add _ _).block ≠ _; rw [add_block]; exact Nat.ne_of_lt (Nat.lt_of_lt_of_le (by have := World.block_lt_of_cell? _ _ hw189_5; first | rwa [add_block] at this | exact this) GW179.out)) | (dsimp only; exact Nat.ne_of_lt (Nat.lt_of_lt_of_le (by have := World.block_lt_of_cell? _ _ hw189_5; first | rwa [add_block] at this | exact this) GW179.out))) _).trans (hHeld.2.2.2.2.2.2.2))⟩ (fun hHeld => ?_)
  clear hK K
  refine one_ (i := 7) (N := none) #[true, true, true, true, true, true, true, true, false] rfl rfl (one_of HT_.out (by kernel_rfl)) (by decide) (fun K hK => ?_)
  obtain ⟨hs31, hfs31⟩ := cc1 BK180
  have hns31_0 := NB178_180.out
  have hns31_1 := NB179_180.out
  have hns31_3 := NB184_180.out
  have hms31_0 := NB180_178.out
  have hms31_1 := NB180_179.out
  have hms31_3 := NB180_184.out
  have hs32 := bc1 BK180
  have hfs32 := bf BK180 1
  have hns32_0 := NB178_180.out
  have hns32_1 := NB179_180.out
  have hns32_3 := NB184_180.out
  have hms32_0 := NB180_178.out
  have hms32_1 := NB180_179.out
  have hms32_3 := NB180_184.out
  have hs33 := bc2 BK180
  have hfs33 := bf BK180 2
  have hns33_0 := NB178_180.out
  have hns33_1 := NB179_180.out
  have hns33_3 := NB184_180.out
  have hms33_0 := NB180_178.out
  have hms33_1 := NB180_179.out
  have hms33_3 := NB180_184.out
  have hs34 := bc3 BK180
  have hfs34 := bf BK180 3
  have hns34_0 := NB178_180.out
  have hns34_1 := NB179_180.out
  have hns34_3 := NB184_180.out
  have hms34_0 := NB180_178.out
  have hms34_1 := NB180_179.out
  have hms34_3 := NB180_184.out
  have hs35 := bc4 BK180
  have hfs35 := bf BK180 4
  have hns35_0 := NB178_180.out
  have hns35_1 := NB179_180.out
  have hns35_3 := NB184_180.out
  have hms35_0 := NB180_178.out
  have hms35_1 := NB180_179.out
  have hms35_3 := NB180_184.out
  have hs36 := bc5 BK180
  have hfs36 := bf BK180 5
  have hns36_0 := NB178_180.out
  have hns36_1 := NB179_180.out
  have hns36_3 := NB184_180.out
  have hms36_0 := NB180_178.out
  have hms36_1 := NB180_179.out
  have hms36_3 := NB180_184.out
  refine skip_ (w1 := ?_) (by rfl) rfl ?_ ?_
  rotate_left
  ·go_simp
   rfl
  refine hK.out _ _ ⟨((cell_far (p := ⟨gb180, _, none⟩) NB184_180.out _).trans (((cell_far (p := ⟨gb180, _, none⟩) NB184_180.out _).trans (((cell_far (p := ⟨gb180, _, none⟩) NB184_180.out _).trans (((cell_far (p := ⟨gb180, _, none⟩) NB184_180.out _).trans (((cell_far (p := ⟨gb180, _, none⟩) NB184_180.out _).trans (((cell_far (p := ⟨gb180, _, none⟩) NB184_180.out _).trans (hHeld.1)))))))))))), ((cell_far (p := ⟨gb180, _, none⟩) NB178_180.out _).trans (((cell_far (p := ⟨gb180, _, none⟩) NB178_180.out _).trans (((cell_far (p := ⟨gb180, _, none⟩) NB178_180.out _).trans (((cell_far (p := ⟨gb180, _, none⟩) NB178_180.out _).trans (((cell_far (p := ⟨gb180, _, none⟩) NB178_180.out _).trans (((cell_far (p := ⟨gb180, _, none⟩) NB178_180.out _).trans (hHeld.2.1)))))))))))), ((cell_far (p := ⟨gb180, _, none⟩) (by first | exact Nat.ne_of_lt (Nat.lt_of_lt_of_le (by have := World.block_lt_of_cell? _ _ hw189_0; first | rwa [add_block] at this | exact this) GW180.out) | (rw [add_block]; exact Nat.ne_of_lt (Nat.lt_of_lt_of_le (by have := World.block_lt_of_cell? _ _ hw189_0; first | rwa [add_block] at this | exact this) GW180.out)) | (show (Addr.add _ _).block ≠ _; rw [add_block]; exact Nat.ne_of_lt (Nat.lt_of_lt_of_le (by have := World.block_lt_of_cell? _ _ hw189_0; first | rwa [add_block] at this | exact this) GW180.out)) | (dsimp only; exact Nat.ne_of_lt (Nat.lt_of_lt_of_le (by have := World.block_lt_of_cell? _ _ hw189_0; first | rwa [add_block] at this | exact this) GW180.out))) _).trans (((cell_far (p := ⟨gb180, _, none⟩) (by first | exact Nat.ne_of_lt (Nat.lt_of_lt_of_le (by have := World.block_lt_of_cell? _ _ hw189_0; first | rwa [add_block] at this | exact this) GW180.out) | (rw [add_block]; exact Nat.ne_of_lt (Nat.lt_of_lt_of_le (by have := World.block_lt_of_cell? _ _ hw189_0; first | rwa [add_block] at this | exact this) GW180.out)) | (show (Addr.add _ _).block ≠ _; rw [add_block]; exact Nat.ne_of_lt (Nat.lt_of_lt_of_le (by have := World.block_lt_of_cell? _ _ hw189_0; first | rwa [add_block] at this | exact this) GW180.out)) | (dsimp only; exact Nat.ne_of_lt (Nat.lt_of_lt_of_le (by have := World.block_lt_of_cell? _ _ hw189_0; first | rwa [add_block] at this | exact this) GW180.out))) _).trans (((cell_far (p := ⟨gb180, _, none⟩) (by first | exact Nat.ne_of_lt (Nat.lt_of_lt_of_le (by have := World.block_lt_of_cell? _ _ hw189_0; first | rwa [add_block] at this | exact this) GW180.out) | (rw [add_block]; exact Nat.ne_of_lt (Nat.lt_of_lt_of_le (by have := World.block_lt_of_cell? _ _ hw189_0; first | rwa [add_block] at this | exact this) GW180.out)) | (show (Addr.add _ _).block ≠ _; rw [add_block]; exact Nat.ne_of_lt (Nat.lt_of_lt_of_le (by have := World.block_lt_of_cell? _ _ hw189_0; first | rwa [add_block] at this | exact this) GW180.out)) | (dsimp only; exact Nat.ne_of_lt (Nat.lt_of_lt_of_le (by have := World.block_lt_of_cell? _ _ hw189_0; first | rwa [add_block] at this | exact this) GW180.out))) _).trans (((cell_far (p := ⟨gb180, _, none⟩) (by first | exact Nat.ne_of_lt (Nat.lt_of_lt_of_le (by have := World.block_lt_of_cell? _ _ hw189_0; first | rwa [add_block] at this | exact this) GW180.out) | (rw [add_block]; exact Nat.ne_of_lt (Nat.lt_of_lt_of_le (by have := World.block_lt_of_cell? _ _ hw189_0; first | rwa [add_block] at this | exact this) GW180.out)) | (show (Addr.add _ _).block ≠ _; rw [add_block]; exact Nat.ne_of_lt (Nat.lt_of_lt_of_le (by have := World.block_lt_of_cell? _ _ hw189_0; first | rwa [add_block] at this | exact this) GW180.out)) | (dsimp only; exact Nat.ne_of_lt (Nat.lt_of_lt_of_le (by have := World.block_lt_of_cell? _ _ hw189_0; first | rwa [add_block] at this | exact this) GW180.out))) _).trans (((cell_far (p := ⟨gb180, _, none⟩) (by first | exact Nat.ne_of_lt (Nat.lt_of_lt_of_le (by have := World.block_lt_of_cell? _ _ hw189_0; first | rwa [add_block] at this | exact this) GW180.out) | (rw [add_block]; exact Nat.ne_of_lt (Nat.lt_of_lt_of_le (by have := World.block_lt_of_cell? _ _ hw189_0; first | rwa [add_block] at this | exact this) GW180.out)) | (show (Addr.add _ _).block ≠ _; rw [add_block]; exact Nat.ne_of_lt (Nat.lt_of_lt_of_le (by have := World.block_lt_of_cell? _ _ hw189_0; first | rwa [add_block] at this | exact this) GW180.out)) | (dsimp only; exact Nat.ne_of_lt (Nat.lt_of_lt_of_le (by have := World.block_lt_of_cell? _ _ hw189_0; first | rwa [add_block] at this | exact this) GW180.out))) _).trans (((cell_far (p := ⟨gb180, _, none⟩) (by first | exact Nat.ne_of_lt (Nat.lt_of_lt_of_le (by have := World.block_lt_of_cell? _ _ hw189_0; first | rwa [add_block] at this | exact this) GW180.out) | (rw [add_block]; exact Nat.ne_of_lt (Nat.lt_of_lt_of_le (by have := World.block_lt_of_cell? _ _ hw189_0; first | rwa [add_block] at this | exact this) GW180.out)) | (show (Addr.add _ _).block ≠ _; rw [add_block]; exact Nat.ne_of_lt (Nat.lt_of_lt_of_le (by have := World.block_lt_of_cell? _ _ hw189_0; first | rwa [add_block] at this | exact this) GW180.out)) | (dsimp only; exact Nat.ne_of_lt (Nat.lt_of_lt_of_le (by have := World.block_lt_of_cell? _ _ hw189_0; first | rwa [add_block] at this | exact this) GW180.out))) _).trans (hHeld.2.2.1)))))))))))), ((cell_far (p := ⟨gb180, _, none⟩) (by first | exact Nat.ne_of_lt (Nat.lt_of_lt_of_le (by have := World.block_lt_of_cell? _ _ hw189_1; first | rwa [add_block] at this | exact this) GW180.out) | (rw [add_block]; exact Nat.ne_of_lt (Nat.lt_of_lt_of_le (by have := World.block_lt_of_cell? _ _ hw189_1; first | rwa [add_block] at this | exact this) GW180.out)) | (show (Addr.add _ _).block ≠ _; rw [add_block]; exact Nat.ne_of_lt (Nat.lt_of_lt_of_le (by have := World.block_lt_of_cell? _ _ hw189_1; first | rwa [add_block] at this | exact this) GW180.out)) | (dsimp only; exact Nat.ne_of_lt (Nat.lt_of_lt_of_le (by have := World.block_lt_of_cell? _ _ hw189_1; first | rwa [add_block] at this | exact this) GW180.out))) _).trans (((cell_far (p := ⟨gb180, _, none⟩) (by first | exact Nat.ne_of_lt (Nat.lt_of_lt_of_le (by have := World.block_lt_of_cell? _ _ hw189_1; first | rwa [add_block] at this | exact this) GW180.out) | (rw [add_block]; exact Nat.ne_of_lt (Nat.lt_of_lt_of_le (by have := World.block_lt_of_cell? _ _ hw189_1; first | rwa [add_block] at this | exact this) GW180.out)) | (show (Addr.add _ _).block ≠ _; rw [add_block]; exact Nat.ne_of_lt (Nat.lt_of_lt_of_le (by have := World.block_lt_of_cell? _ _ hw189_1; first | rwa [add_block] at this | exact this) GW180.out)) | (dsimp only; exact Nat.ne_of_lt (Nat.lt_of_lt_of_le (by have := World.block_lt_of_cell? _ _ hw189_1; first | rwa [add_block] at this | exact this) GW180.out))) _).trans (((cell_far (p := ⟨gb180, _, none⟩) (by first | exact Nat.ne_of_lt (Nat.lt_of_lt_of_le (by have := World.block_lt_of_cell? _ _ hw189_1; first | rwa [add_block] at this | exact this) GW180.out) | (rw [add_block]; exact Nat.ne_of_lt (Nat.lt_of_lt_of_le (by have := World.block_lt_of_cell? _ _ hw189_1; first | rwa [add_block] at this | exact this) GW180.out)) | (show (Addr.add _ _).block ≠ _; rw [add_block]; exact Nat.ne_of_lt (Nat.lt_of_lt_of_le (by have := World.block_lt_of_cell? _ _ hw189_1; first | rwa [add_block] at this | exact this) GW180.out)) | (dsimp only; exact Nat.ne_of_lt (Nat.lt_of_lt_of_le (by have := World.block_lt_of_cell? _ _ hw189_1; first | rwa [add_block] at this | exact this) GW180.out))) _).trans (((cell_far (p := ⟨gb180, _, none⟩) (by first | exact Nat.ne_of_lt (Nat.lt_of_lt_of_le (by have := World.block_lt_of_cell? _ _ hw189_1; first | rwa [add_block] at this | exact this) GW180.out) | (rw [add_block]; exact Nat.ne_of_lt (Nat.lt_of_lt_of_le (by have := World.block_lt_of_cell? _ _ hw189_1; first | rwa [add_block] at this | exact this) GW180.out)) | (show (Addr.add _ _).block ≠ _; rw [add_block]; exact Nat.ne_of_lt (Nat.lt_of_lt_of_le (by have := World.block_lt_of_cell? _ _ hw189_1; first | rwa [add_block] at this | exact this) GW180.out)) | (dsimp only; exact Nat.ne_of_lt (Nat.lt_of_lt_of_le (by have := World.block_lt_of_cell? _ _ hw189_1; first | rwa [add_block] at this | exact this) GW180.out))) _).trans (((cell_far (p := ⟨gb180, _, none⟩) (by first | exact Nat.ne_of_lt (Nat.lt_of_lt_of_le (by have := World.block_lt_of_cell? _ _ hw189_1; first | rwa [add_block] at this | exact this) GW180.out) | (rw [add_block]; exact Nat.ne_of_lt (Nat.lt_of_lt_of_le (by have := World.block_lt_of_cell? _ _ hw189_1; first | rwa [add_block] at this | exact this) GW180.out)) | (show (Addr.add _ _).block ≠ _; rw [add_block]; exact Nat.ne_of_lt (Nat.lt_of_lt_of_le (by have := World.block_lt_of_cell? _ _ hw189_1; first | rwa [add_block] at this | exact this) GW180.out)) | (dsimp only; exact Nat.ne_of_lt (Nat.lt_of_lt_of_le (by have := World.block_lt_of_cell? _ _ hw189_1; first | rwa [add_block] at this | exact this) GW180.out))) _).trans (((cell_far (p := ⟨gb180, _, none⟩) (by first | exact Nat.ne_of_lt (Nat.lt_of_lt_of_le (by have := World.block_lt_of_cell? _ _ hw189_1; first | rwa [add_block] at this | exact this) GW180.out) | (rw [add_block]; exact Nat.ne_of_lt (Nat.lt_of_lt_of_le (by have := World.block_lt_of_cell? _ _ hw189_1; first | rwa [add_block] at this | exact this) GW180.out)) | (show (Addr.add _ _).block ≠ _; rw [add_block]; exact Nat.ne_of_lt (Nat.lt_of_lt_of_le (by have := World.block_lt_of_cell? _ _ hw189_1; first | rwa [add_block] at this | exact this) GW180.out)) | (dsimp only; exact Nat.ne_of_lt (Nat.lt_of_lt_of_le (by have := World.block_lt_of_cell? _ _ hw189_1; first | rwa [add_block] at this | exact this) GW180.out))) _).trans (hHeld.2.2.2.1)))))))))))), ((cell_far (p := ⟨gb180, _, none⟩) (by first | exact Nat.ne_of_lt (Nat.lt_of_lt_of_le (by have := World.block_lt_of_cell? _ _ hw189_2; first | rwa [add_block] at this | exact this) GW180.out) | (rw [add_block]; exact Nat.ne_of_lt (Nat.lt_of_lt_of_le (by have := World.block_lt_of_cell? _ _ hw189_2; first | rwa [add_block] at this | exact this) GW180.out)) | (show (Addr.add _ _).block ≠ _; rw [add_block]; exact Nat.ne_of_lt (Nat.lt_of_lt_of_le (by have := World.block_lt_of_cell? _ _ hw189_2; first | rwa [add_block] at this | exact this) GW180.out)) | (dsimp only; exact Nat.ne_of_lt (Nat.lt_of_lt_of_le (by have := World.block_lt_of_cell? _ _ hw189_2; first | rwa [add_block] at this | exact this) GW180.out))) _).trans (((cell_far (p := ⟨gb180, _, none⟩) (by first | exact Nat.ne_of_lt (Nat.lt_of_lt_of_le (by have := World.block_lt_of_cell? _ _ hw189_2; first | rwa [add_block] at this | exact this) GW180.out) | (rw [add_block]; exact Nat.ne_of_lt (Nat.lt_of_lt_of_le (by have := World.block_lt_of_cell? _ _ hw189_2; first | rwa [add_block] at this | exact this) GW180.out)) | (show (Addr.add _ _).block ≠ _; rw [add_block]; exact Nat.ne_of_lt (Nat.lt_of_lt_of_le (by have := World.block_lt_of_cell? _ _ hw189_2; first | rwa [add_block] at this | exact this) GW180.out)) | (dsimp only; exact Nat.ne_of_lt (Nat.lt_of_lt_of_le (by have := World.block_lt_of_cell? _ _ hw189_2; first | rwa [add_block] at this | exact this) GW180.out))) _).trans (((cell_far (p := ⟨gb180, _, none⟩) (by first | exact Nat.ne_of_lt (Nat.lt_of_lt_of_le (by have := World.block_lt_of_cell? _ _ hw189_2; first | rwa [add_block] at this | exact this) GW180.out) | (rw [add_block]; exact Nat.ne_of_lt (Nat.lt_of_lt_of_le (by have := World.block_lt_of_cell? _ _ hw189_2; first | rwa [add_block] at this | exact this) GW180.out)) | (show (Addr.add _ _).block ≠ _; rw [add_block]; exact Nat.ne_of_lt (Nat.lt_of_lt_of_le (by have := World.block_lt_of_cell? _ _ hw189_2; first | rwa [add_block] at this | exact this) GW180.out)) | (dsimp only; exact Nat.ne_of_lt (Nat.lt_of_lt_of_le (by have := World.block_lt_of_cell? _ _ hw189_2; first | rwa [add_block] at this | exact this) GW180.out))) _).trans (((cell_far (p := ⟨gb180, _, none⟩) (by first | exact Nat.ne_of_lt (Nat.lt_of_lt_of_le (by have := World.block_lt_of_cell? _ _ hw189_2; first | rwa [add_block] at this | exact this) GW180.out) | (rw [add_block]; exact Nat.ne_of_lt (Nat.lt_of_lt_of_le (by have := World.block_lt_of_cell? _ _ hw189_2; first | rwa [add_block] at this | exact this) GW180.out)) | (show (Addr.add _ _).block ≠ _; rw [add_block]; exact Nat.ne_of_lt (Nat.lt_of_lt_of_le (by have := World.block_lt_of_cell? _ _ hw189_2; first | rwa [add_block] at this | exact this) GW180.out)) | (dsimp only; exact Nat.ne_of_lt (Nat.lt_of_lt_of_le (by have := World.block_lt_of_cell? _ _ hw189_2; first | rwa [add_block] at this | exact this) GW180.out))) _).trans (((cell_far (p := ⟨gb180, _, none⟩) (by first | exact Nat.ne_of_lt (Nat.lt_of_lt_of_le (by have := World.block_lt_of_cell? _ _ hw189_2; first | rwa [add_block] at this | exact this) GW180.out) | (rw [add_block]; exact Nat.ne_of_lt (Nat.lt_of_lt_of_le (by have := World.block_lt_of_cell? _ _ hw189_2; first | rwa [add_block] at this | exact this) GW180.out)) | (show (Addr.add _ _).block ≠ _; rw [add_block]; exact Nat.ne_of_lt (Nat.lt_of_lt_of_le (by have := World.block_lt_of_cell? _ _ hw189_2; first | rwa [add_block] at this | exact this) GW180.out)) | (dsimp only; exact Nat.ne_of_lt (Nat.lt_of_lt_of_le (by have := World.block_lt_of_cell? _ _ hw189_2; first | rwa [add_block] at this | exact this) GW180.out))) _).trans (((cell_far (p := ⟨gb180, _, none⟩) (by first | exact Nat.ne_of_lt (Nat.lt_of_lt_of_le (by have := World.block_lt_of_cell? _ _ hw189_2; first | rwa [add_block] at this | exact this) GW180.out) | (rw [add_block]; exact Nat.ne_of_lt (Nat.lt_of_lt_of_le (by have := World.block_lt_of_cell? _ _ hw189_2; first | rwa [add_block] at this | exact this) GW180.out)) | (show (Addr.add _ _).block ≠ _; rw [add_block]; exact Nat.ne_of_lt (Nat.lt_of_lt_of_le (by have := World.block_lt_of_cell? _ _ hw189_2; first | rwa [add_block] at this | exact this) GW180.out)) | (dsimp only; exact Nat.ne_of_lt (Nat.lt_of_lt_of_le (by have := World.block_lt_of_cell? _ _ hw189_2; first | rwa [add_block] at this | exact this) GW180.out))) _).trans (hHeld.2.2.2.2.1)))))))))))), ((cell_far (p := ⟨gb180, _, none⟩) (by first | exact Nat.ne_of_lt (Nat.lt_of_lt_of_le (by have := World.block_lt_of_cell? _ _ hw189_3; first | rwa [add_block] at this | exact this) GW180.out) | (rw [add_block]; exact Nat.ne_of_lt (Nat.lt_of_lt_of_le (by have := World.block_lt_of_cell? _ _ hw189_3; first | rwa [add_block] at this | exact this) GW180.out)) | (show (Addr.add _ _).block ≠ _; rw [add_block]; exact Nat.ne_of_lt (Nat.lt_of_lt_of_le (by have := World.block_lt_of_cell? _ _ hw189_3; first | rwa [add_block] at this | exact this) GW180.out)) | (dsimp only; exact Nat.ne_of_lt (Nat.lt_of_lt_of_le (by have := World.block_lt_of_cell? _ _ hw189_3; first | rwa [add_block] at this | exact this) GW180.out))) _).trans (((cell_far (p := ⟨gb180, _, none⟩) (by first | exact Nat.ne_of_lt (Nat.lt_of_lt_of_le (by have := World.block_lt_of_cell? _ _ hw189_3; first | rwa [add_block] at this | exact this) GW180.out) | (rw [add_block]; exact Nat.ne_of_lt (Nat.lt_of_lt_of_le (by have := World.block_lt_of_cell? _ _ hw189_3; first | rwa [add_block] at this | exact this) GW180.out)) | (show (Addr.add _ _).block ≠ _; rw [add_block]; exact Nat.ne_of_lt (Nat.lt_of_lt_of_le (by have := World.block_lt_of_cell? _ _ hw189_3; first | rwa [add_block] at this | exact this) GW180.out)) | (dsimp only; exact Nat.ne_of_lt (Nat.lt_of_lt_of_le (by have := World.block_lt_of_cell? _ _ hw189_3; first | rwa [add_block] at this | exact this) GW180.out))) _).trans (((cell_far (p := ⟨gb180, _, none⟩) (by first | exact Nat.ne_of_lt (Nat.lt_of_lt_of_le (by have := World.block_lt_of_cell? _ _ hw189_3; first | rwa [add_block] at this | exact this) GW180.out) | (rw [add_block]; exact Nat.ne_of_lt (Nat.lt_of_lt_of_le (by have := World.block_lt_of_cell? _ _ hw189_3; first | rwa [add_block] at this | exact this) GW180.out)) | (show (Addr.add _ _).block ≠ _; rw [add_block]; exact Nat.ne_of_lt (Nat.lt_of_lt_of_le (by have := World.block_lt_of_cell? _ _ hw189_3; first | rwa [add_block] at this | exact this) GW180.out)) | (dsimp only; exact Nat.ne_of_lt (Nat.lt_of_lt_of_le (by have := World.block_lt_of_cell? _ _ hw189_3; first | rwa [add_block] at this | exact this) GW180.out))) _).trans (((cell_far (p := ⟨gb180, _, none⟩) (by first | exact Nat.ne_of_lt (Nat.lt_of_lt_of_le (by have := World.block_lt_of_cell? _ _ hw189_3; first | rwa [add_block] at this | exact this) GW180.out) | (rw [add_block]; exact Nat.ne_of_lt (Nat.lt_of_lt_of_le (by have := World.block_lt_of_cell? _ _ hw189_3; first | rwa [add_block] at this | exact this) GW180.out)) | (show (Addr.add _ _).block ≠ _; rw [add_block]; exact Nat.ne_of_lt (Nat.lt_of_lt_of_le (by have := World.block_lt_of_cell? _ _ hw189_3; first | rwa [add_block] at this | exact this) GW180.out)) | (dsimp only; exact Nat.ne_of_lt (Nat.lt_of_lt_of_le (by have := World.block_lt_of_cell? _ _ hw189_3; first | rwa [add_block] at this | exact this) GW180.out))) _).trans (((cell_far (p := ⟨gb180, _, none⟩) (by first | exact Nat.ne_of_lt (Nat.lt_of_lt_of_le (by have := World.block_lt_of_cell? _ _ hw189_3; first | rwa [add_block] at this | exact this) GW180.out) | (rw [add_block]; exact Nat.ne_of_lt (Nat.lt_of_lt_of_le (by have := World.block_lt_of_cell? _ _ hw189_3; first | rwa [add_block] at this | exact this) GW180.out)) | (show (Addr.add _ _).block ≠ _; rw [add_block]; exact Nat.ne_of_lt (Nat.lt_of_lt_of_le (by have := World.block_lt_of_cell? _ _ hw189_3; first | rwa [add_block] at this | exact this) GW180.out)) | (dsimp only; exact Nat.ne_of_lt (Nat.lt_of_lt_of_le (by have := World.block_lt_of_cell? _ _ hw189_3; first | rwa [add_block] at this | exact this) GW180.out))) _).trans (((cell_far (p := ⟨gb180, _, none⟩) (by first | exact Nat.ne_of_lt (Nat.lt_of_lt_of_le (by have := World.block_lt_of_cell? _ _ hw189_3; first | rwa [add_block] at this | exact this) GW180.out) | (rw [add_block]; exact Nat.ne_of_lt (Nat.lt_of_lt_of_le (by have := World.block_lt_of_cell? _ _ hw189_3; first | rwa [add_block] at this | exact this) GW180.out)) | (show (Addr.add _ _).block ≠ _; rw [add_block]; exact Nat.ne_of_lt (Nat.lt_of_lt_of_le (by have := World.block_lt_of_cell? _ _ hw189_3; first | rwa [add_block] at this | exact this) GW180.out)) | (dsimp only; exact Nat.ne_of_lt (Nat.lt_of_lt_of_le (by have := World.block_lt_of_cell? _ _ hw189_3; first | rwa [add_block] at this | exact this) GW180.out))) _).trans (hHeld.2.2.2.2.2.1)))))))))))), ((cell_far (p := ⟨gb180, _, none⟩) (by first | exact Nat.ne_of_lt (Nat.lt_of_lt_of_le (by have := World.block_lt_of_cell? _ _ hw189_4; first | rwa [add_block] at this | exact this) GW180.out) | (rw [add_block]; exact Nat.ne_of_lt (Nat.lt_of_lt_of_le (by have := World.block_lt_of_cell? _ _ hw189_4; first | rwa [add_block] at this | exact this) GW180.out)) | (show (Addr.add _ _).block ≠ _; rw [add_block]; exact Nat.ne_of_lt (Nat.lt_of_lt_of_le (by have := World.block_lt_of_cell? _ _ hw189_4; first | rwa [add_block] at this | exact this) GW180.out)) | (dsimp only; exact Nat.ne_of_lt (Nat.lt_of_lt_of_le (by have := World.block_lt_of_cell? _ _ hw189_4; first | rwa [add_block] at this | exact this) GW180.out))) _).trans (((cell_far (p := ⟨gb180, _, none⟩) (by first | exact Nat.ne_of_lt (Nat.lt_of_lt_of_le (by have := World.block_lt_of_cell? _ _ hw189_4; first | rwa [add_block] at this | exact this) GW180.out) | (rw [add_block]; exact Nat.ne_of_lt (Nat.lt_of_lt_of_le (by have := World.block_lt_of_cell? _ _ hw189_4; first | rwa [add_block] at this | exact this) GW180.out)) | (show (Addr.add _ _).block ≠ _; rw [add_block]; exact Nat.ne_of_lt (Nat.lt_of_lt_of_le (by have := World.block_lt_of_cell? _ _ hw189_4; first | rwa [add_block] at this | exact this) GW180.out)) | (dsimp only; exact Nat.ne_of_lt (Nat.lt_of_lt_of_le (by have := World.block_lt_of_cell? _ _ hw189_4; first | rwa [add_block] at this | exact this) GW180.out))) _).trans (((cell_far (p := ⟨gb180, _, none⟩) (by first | exact Nat.ne_of_lt (Nat.lt_of_lt_of_le (by have := World.block_lt_of_cell? _ _ hw189_4; first | rwa [add_block] at this | exact this) GW180.out) | (rw [add_block]; exact Nat.ne_of_lt (Nat.lt_of_lt_of_le (by have := World.block_lt_of_cell? _ _ hw189_4; first | rwa [add_block] at this | exact this) GW180.out)) | (show (Addr.add _ _).block ≠ _; rw [add_block]; exact Nat.ne_of_lt (Nat.lt_of_lt_of_le (by have := World.block_lt_of_cell? _ _ hw189_4; first | rwa [add_block] at this | exact this) GW180.out)) | (dsimp only; exact Nat.ne_of_lt (Nat.lt_of_lt_of_le (by have := World.block_lt_of_cell? _ _ hw189_4; first | rwa [add_block] at this | exact this) GW180.out))) _).trans (((cell_far (p := ⟨gb180, _, none⟩) (by first | exact Nat.ne_of_lt (Nat.lt_of_lt_of_le (by have := World.block_lt_of_cell? _ _ hw189_4; first | rwa [add_block] at this | exact this) GW180.out) | (rw [add_block]; exact Nat.ne_of_lt (Nat.lt_of_lt_of_le (by have := World.block_lt_of_cell? _ _ hw189_4; first | rwa [add_block] at this | exact this) GW180.out)) | (show (Addr.add _ _).block ≠ _; rw [add_block]; exact Nat.ne_of_lt (Nat.lt_of_lt_of_le (by have := World.block_lt_of_cell? _ _ hw189_4; first | rwa [add_block] at this | exact this) GW180.out)) | (dsimp only; exact Nat.ne_of_lt (Nat.lt_of_lt_of_le (by have := World.block_lt_of_cell? _ _ hw189_4; first | rwa [add_block] at this | exact this) GW180.out))) _).trans (((cell_far (p := ⟨gb180, _, none⟩) (by first | exact Nat.ne_of_lt (Nat.lt_of_lt_of_le (by have := World.block_lt_of_cell? _ _ hw189_4; first | rwa [add_block] at this | exact this) GW180.out) | (rw [add_block]; exact Nat.ne_of_lt (Nat.lt_of_lt_of_le (by have := World.block_lt_of_cell? _ _ hw189_4; first | rwa [add_block] at this | exact this) GW180.out)) | (show (Addr.add _ _).block ≠ _; rw [add_block]; exact Nat.ne_of_lt (Nat.lt_of_lt_of_le (by have := World.block_lt_of_cell? _ _ hw189_4; first | rwa [add_block] at this | exact this) GW180.out)) | (dsimp only; exact Nat.ne_of_lt (Nat.lt_of_lt_of_le (by have := World.block_lt_of_cell? _ _ hw189_4; first | rwa [add_block] at this | exact this) GW180.out))) _).trans (((cell_far (p := ⟨gb180, _, none⟩) (by first | exact Nat.ne_of_lt (Nat.lt_of_lt_of_le (by have := World.block_lt_of_cell? _ _ hw189_4; first | rwa [add_block] at this | exact this) GW180.out) | (rw [add_block]; exact Nat.ne_of_lt (Nat.lt_of_lt_of_le (by have := World.block_lt_of_cell? _ _ hw189_4; first | rwa [add_block] at this | exact this) GW180.out)) | (show (Addr.add _ _).block ≠ _; rw [add_block]; exact Nat.ne_of_lt (Nat.lt_of_lt_of_le (by have := World.block_lt_of_cell? _ _ hw189_4; first | rwa [add_block] at this | exact this) GW180.out)) | (dsimp only; exact Nat.ne_of_lt (Nat.lt_of_lt_of_le (by have := World.block_lt_of_cell? _ _ hw189_4; first | rwa [add_block] at this | exact this) GW180.out))) _).trans (hHeld.2.2.2.2.2.2.1)))))))))))), ((cell_far (p := ⟨gb180, _, none⟩) (by first | exact Nat.ne_of_lt (Nat.lt_of_lt_of_le (by have := World.block_lt_of_cell? _ _ hw189_5; first | rwa [add_block] at this | exact this) GW180.out) | (rw [add_block]; exact Nat.ne_of_lt (Nat.lt_of_lt_of_le (by have := World.block_lt_of_cell? _ _ hw189_5; first | rwa [add_block] at this | exact this) GW180.out)) | (show (Addr.add _ _).block ≠ _; rw [add_block]; exact Nat.ne_of_lt (Nat.lt_of_lt_of_le (by have := World.block_lt_of_cell? _ _ hw189_5; first | rwa [add_block] at this | exact this) GW180.out)) | (dsimp only; exact Nat.ne_of_lt (Nat.lt_of_lt_of_le (by have := World.block_lt_of_cell? _ _ hw189_5; first | rwa [add_block] at this | exact this) GW180.out))) _).trans (((cell_far (p := ⟨gb180, _, none⟩) (by first | exact Nat.ne_of_lt (Nat.lt_of_lt_of_le (by have := World.block_lt_of_cell? _ _ hw189_5; first | rwa [add_block] at this | exact this) GW180.out) | (rw [add_block]; exact Nat.ne_of_lt (Nat.lt_of_lt_of_le (by have := World.block_lt_of_cell? _ _ hw189_5; first | rwa [add_block] at this | exact this) GW180.out)) | (show (Addr.add _ _).block ≠ _; rw [add_block]; exact Nat.ne_of_lt (Nat.lt_of_lt_of_le (by have := World.block_lt_of_cell? _ _ hw189_5; first | rwa [add_block] at this | exact this) GW180.out)) | (dsimp only; exact Nat.ne_of_lt (Nat.lt_of_lt_of_le (by have := World.block_lt_of_cell? _ _ hw189_5; first | rwa [add_block] at this | exact this) GW180.out))) _).trans (((cell_far (p := ⟨gb180, _, none⟩) (by first | exact Nat.ne_of_lt (Nat.lt_of_lt_of_le (by have := World.block_lt_of_cell? _ _ hw189_5; first | rwa [add_block] at this | exact this) GW180.out) | (rw [add_block]; exact Nat.ne_of_lt (Nat.lt_of_lt_of_le (by have := World.block_lt_of_cell? _ _ hw189_5; first | rwa [add_block] at this | exact this) GW180.out)) | (show (Addr.add _ _).block ≠ _; rw [add_block]; exact Nat.ne_of_lt (Nat.lt_of_lt_of_le (by have := World.block_lt_of_cell? _ _ hw189_5; first | rwa [add_block] at this | exact this) GW180.out)) | (dsimp only; exact Nat.ne_of_lt (Nat.lt_of_lt_of_le (by have := World.block_lt_of_cell? _ _ hw189_5; first | rwa [add_block] at this | exact this) GW180.out))) _).trans (((cell_far (p := ⟨gb180, _, none⟩) (by first | exact Nat.ne_of_lt (Nat.lt_of_lt_of_le (by have := World.block_lt_of_cell? _ _ hw189_5; first | rwa [add_block] at this | exact this) GW180.out) | (rw [add_block]; exact Nat.ne_of_lt (Nat.lt_of_lt_of_le (by have := World.block_lt_of_cell? _ _ hw189_5; first | rwa [add_block] at this | exact this) GW180.out)) | (show (Addr.add _ _).block ≠ _; rw [add_block]; exact Nat.ne_of_lt (Nat.lt_of_lt_of_le (by have := World.block_lt_of_cell? _ _ hw189_5; first | rwa [add_block] at this | exact this) GW180.out)) | (dsimp only; exact Nat.ne_of_lt (Nat.lt_of_lt_of_le (by have := World.block_lt_of_cell? _ _ hw189_5; first | rwa [add_block] at this | exact this) GW180.out))) _).trans (((cell_far (p := ⟨gb180, _, none⟩) (by first | exact Nat.ne_of_lt (Nat.lt_of_lt_of_le (by have := World.block_lt_of_cell? _ _ hw189_5; first | rwa [add_block] at this | exact this) GW180.out) | (rw [add_block]; exact Nat.ne_of_lt (Nat.lt_of_lt_of_le (by have := World.block_lt_of_cell? _ _ hw189_5; first | rwa [add_block] at this | exact this) GW180.out)) | (show (Addr.add _ _).block ≠ _; rw [add_block]; exact Nat.ne_of_lt (Nat.lt_of_lt_of_le (by have := World.block_lt_of_cell? _ _ hw189_5; first | rwa [add_block] at this | exact this) GW180.out)) | (dsimp only; exact Nat.ne_of_lt (Nat.lt_of_lt_of_le (by have := World.block_lt_of_cell? _ _ hw189_5; first | rwa [add_block] at this | exact this) GW180.out))) _).trans (((cell_far (p := ⟨gb180, _, none⟩) (by first | exact Nat.ne_of_lt (Nat.lt_of_lt_of_le (by have := World.block_lt_of_cell? _ _ hw189_5; first | rwa [add_block] at this | exact this) GW180.out) | (rw [add_block]; exact Nat.ne_of_lt (Nat.lt_of_lt_of_le (by have := World.block_lt_of_cell? _ _ hw189_5; first | rwa [add_block] at this | exact this) GW180.out)) | (show (Addr.add _ _).block ≠ _; rw [add_block]; exact Nat.ne_of_lt (Nat.lt_of_lt_of_le (by have := World.block_lt_of_cell? _ _ hw189_5; first | rwa [add_block] at this | exact this) GW180.out)) | (dsimp only; exact Nat.ne_of_lt (Nat.lt_of_lt_of_le (by have := World.block_lt_of_cell? _ _ hw189_5; first | rwa [add_block] at this | exact this) GW180.out))) _).trans (hHeld.2.2.2.2.2.2.2))))))))))))⟩ (fun hHeld => ?_)
  clear hK K
  refine put 8 6 #[true, true, true, true, true, true, true, true, true] HT_ ?_
  refine done_ (done_of HT_.out (by kernel_rfl)) ?_
  try go_wp2
  refine bodyPost_ret (results_list (rs := [.cell 4 41, .cell 5 49, .tmp 6]) rfl (by simp) (.cell gb179 41 #[.slice Ao26 t186.length co26] (0, 0) _ rfl (sp BK179) Try.underlying41 rfl (by kernel_rfl) (.cell gb180 49 #[.int .i64 ((rd_T49 l0_0 a1).f0), .int .i64 ((rd_T49 l0_0 a1).f1), .int .i64 ((rd_T49 l0_0 a1).f2), .int .i64 ((rd_T49 l0_0 a1).f3), .int .i64 ((rd_T49 l0_0 a1).f4), .int .i64 ((rd_T49 l0_0 a1).f5)] (0, 0) _ rfl (sp BK180) Try.underlying49 rfl (by kernel_rfl) (.tmp .nil)))) rfl ?_
  exact ⟨_, se, by (with_reducible repeat (first | apply Kd.R_alloc | apply Kd.R_drewN | apply Kd.R_drew)); exact Kd.R_mono (Kd.R_far (p := ⟨gb180, 5, none⟩) (Kd.R_far (p := ⟨gb180, 4, none⟩) (Kd.R_far (p := ⟨gb180, 3, none⟩) (Kd.R_far (p := ⟨gb180, 2, none⟩) (Kd.R_far (p := ⟨gb180, 1, none⟩) (Kd.R_far (p := ⟨gb180, 0, none⟩) (Kd.R_far (p := ⟨gb179, 0, none⟩) (Kd.R_mono (Kd.R_types HO188.out BK179.out (by decide)) (fun k_ hk => (⟨hk, hk.1⟩ : _ ∧ k_ ≠ gb180))) (fun _ hk => hk.1.2) (.slice Ao26 t186.length co26)) (fun _ hk => hk.2) (.int .i64 ((rd_T49 l0_0 a1).f0))) (fun _ hk => hk.2) (.int .i64 ((rd_T49 l0_0 a1).f1))) (fun _ hk => hk.2) (.int .i64 ((rd_T49 l0_0 a1).f2))) (fun _ hk => hk.2) (.int .i64 ((rd_T49 l0_0 a1).f3))) (fun _ hk => hk.2) (.int .i64 ((rd_T49 l0_0 a1).f4))) (fun _ hk => hk.2) (.int .i64 ((rd_T49 l0_0 a1).f5))) (fun _ hk => trivial), sbw⟩
 ·replace H := im H
  simp only [Option.some.injEq, Prod.mk.injEq] at H
  obtain ⟨rfl, rfl, rfl, rfl, rfl, rfl, rfl, rfl⟩ := H
  go_enter Try.func31, Try.ntmps31
  go_wp2_with (first | ((with_reducible refine gate_dst (N := 2) rfl ?_); refine bx 2 #[.slice A0_0 l0_0.length c0_0] 41 ?_; intro gb178 hg w37 hbox hb; have GW178 := bz w hg; have GE178 := bz w hg; replace HB := bs hb; have BK178 := Aside0.mk hbox; clear hb hbox hg) | ((with_reducible refine gate_dst (N := 4) rfl ?_); refine bx 4 #[.slice none 0 0] 41 ?_; intro gb179 hg w38 hbox hb; have GW179 := bzw w hg; have GE179 := bzw w hg; replace HB := bsw hb; have BK179 := Aside0.mk hbox; have NB178_179 := nl BK178 hg; have NB179_178 := ng BK178 hg; replace BK178 := bb BK178 hb; clear hb hbox hg) | ((with_reducible refine gate_dst (N := 5) rfl ?_); refine bx 5 #[.int .i64 0, .int .i64 0, .int .i64 0, .int .i64 0, .int .i64 0, .int .i64 0] 49 ?_; intro gb180 hg w39 hbox hb; have GW180 := bzw w hg; have GE180 := bzw w hg; replace HB := bsw hb; have BK180 := Aside0.mk hbox; have NB178_180 := nl BK178 hg; have NB180_178 := ng BK178 hg; replace BK178 := bb BK178 hb; have NB179_180 := nl BK179 hg; have NB180_179 := ng BK179 hg; replace BK179 := bb BK179 hb; clear hb hbox hg; have hnb40 := NB178_179.out; have hnc40 := NB179_178.out; have hnb41 := NB178_180.out; have hnc41 := NB180_178.out; obtain ⟨hcz42_0, hfz42_0⟩ := cc1 BK178) | ((with_reducible refine gate_callee (f := 80) rfl ?_); refine gL (some 9) Try.func80 #[.agg #[.slice A0_0 l0_0.length c0_0]] ?_; (with_reducible refine (impl_cloneQueue.calls _ _ l0_0 t181 _ ?side1 ?side2 A3.out).mono ?_); (case side1 => exact cb HR0_0); (case side2 => exact HC0_0.out); rintro e w43 ⟨v182, rfl, ho0, hb⟩; refine ⟨_, rfl, ?_⟩; have HO183 := Aside0.mk (Kd.R_lower (Kd.R_newB ho0 (g := gb180) (o := .cells #[.int .i64 0, .int .i64 0, .int .i64 0, .int .i64 0, .int .i64 0, .int .i64 0] 49 (0, 0)) (sk BK180)) (below_size (sbw))); replace BK178 := bb BK178 hb; replace BK179 := bb BK179 hb; replace BK180 := bb BK180 hb; replace HB := bsw hb; (try clear hb); (try clear hb2); (try clear hk); (try clear hi); (try clear ho0)) | ((with_reducible refine gate_dst (N := 7) rfl ?_); refine bx 7 #[.slice none 0 0] 41 ?_; intro gb184 hg w44 hbox hb; replace HO183 := Aside0.mk (Kd.R_below (sr HO183) hb); have GW184 := bzw w hg; have GE184 := bzw w hg; replace HB := bsw hb; have BK184 := Aside0.mk hbox; have NB178_184 := nl BK178 hg; have NB184_178 := ng BK178 hg; replace BK178 := bb BK178 hb; have NB179_184 := nl BK179 hg; have NB184_179 := ng BK179 hg; replace BK179 := bb BK179 hb; have NB180_184 := nl BK180 hg; have NB184_180 := ng BK180 hg; replace BK180 := bb BK180 hb; clear hb hbox hg; obtain ⟨Ao45, co45, eo45⟩ := Kd.R_slice HO183.out; subst eo45; have hnb46 := NB184_178.out; have hnc46 := NB178_184.out; have hnb47 := NB184_179.out; have hnc47 := NB179_184.out; have hnb48 := NB184_180.out; have hnc48 := NB180_184.out; obtain ⟨hcz49_0, hfz49_0⟩ := cc1 BK184; obtain ⟨hcz50_0, hfz50_0⟩ := cc1 BK178) | ((with_reducible refine gate_callee (f := 81) rfl ?_); refine gL (some 14) Try.func81 #[.int .i64 a1, .int .i64 (l0_0.length : Int)] ?_; (with_reducible refine (impl_isIndex.calls a1 (l0_0.length : Int) false _ A4.out).mono ?_); rintro e w' ⟨rfl, ⟨nd, rfl⟩⟩; refine ⟨_, rfl, ?_⟩; have hnb51 := NB179_180.out; have hnc51 := NB180_179.out; obtain ⟨hcz52_0, hfz52_0⟩ := cc1 BK179; obtain ⟨hcz53_0, hcz53_1, hcz53_2, hcz53_3, hcz53_4, hcz53_5, hfz53_0, hfz53_1, hfz53_2, hfz53_3, hfz53_4, hfz53_5⟩ := cc6 BK180))
  refine bodyPost_ret (results_list (rs := [.cell 4 41, .cell 5 49, .tmp 6]) rfl (by simp) (.cell gb179 41 #[.slice Ao45 t181.length co45] (0, 0) _ rfl (sp BK179) Try.underlying41 rfl (by kernel_rfl) (.cell gb180 49 #[.int .i64 0, .int .i64 0, .int .i64 0, .int .i64 0, .int .i64 0, .int .i64 0] (0, 0) _ rfl (sp BK180) Try.underlying49 rfl (by kernel_rfl) (.tmp .nil)))) rfl ?_
  exact ⟨_, se, by (with_reducible repeat (first | apply Kd.R_alloc | apply Kd.R_drewN | apply Kd.R_drew)); exact Kd.R_mono (Kd.R_far (p := ⟨gb180, 5, none⟩) (Kd.R_far (p := ⟨gb180, 4, none⟩) (Kd.R_far (p := ⟨gb180, 3, none⟩) (Kd.R_far (p := ⟨gb180, 2, none⟩) (Kd.R_far (p := ⟨gb180, 1, none⟩) (Kd.R_far (p := ⟨gb180, 0, none⟩) (Kd.R_far (p := ⟨gb179, 0, none⟩) (Kd.R_far (p := ⟨gb184, 0, none⟩) (Kd.R_mono (Kd.R_types (Kd.R_types HO183.out BK184.out (by decide)) BK179.out (by decide)) (fun k_ hk => (⟨hk, hk.1.1.2⟩ : _ ∧ k_ ≠ gb180))) (fun _ hk => hk.1.1.2) (.slice Ao45 t181.length co45)) (fun _ hk => hk.1.2) (.slice Ao45 t181.length co45)) (fun _ hk => hk.2) (.int .i64 0)) (fun _ hk => hk.2) (.int .i64 0)) (fun _ hk => hk.2) (.int .i64 0)) (fun _ hk => hk.2) (.int .i64 0)) (fun _ hk => hk.2) (.int .i64 0)) (fun _ hk => hk.2) (.int .i64 0)) (fun _ hk => trivial), sbw⟩

/-! ### laws_heldPacketS: function 83 -/
def laws_heldPacketS.l0 : Nat → List (S49) → Int → Int → Option (Int)
  | 0, _, _, _ => none
  | k + 1, x0, x1, x5 => if x5 < (x0.length : Int) then (if 0 ≤ x5 then (if ((rd_T49 x0 x5).f0) = x1 then (if ((rd_T49 x0 x5).f1) = (wrap64 (x1 + 1)) then (if ((rd_T49 x0 x5).f2) = (wrap64 ((wrap64 (x1 + 1)) + 1)) then (if ((rd_T49 x0 x5).f3) = (wrap64 ((wrap64 ((wrap64 (x1 + 1)) + 1)) + 1)) then (if ((rd_T49 x0 x5).f4) = (wrap64 ((wrap64 ((wrap64 ((wrap64 (x1 + 1)) + 1)) + 1)) + 1)) then (if ((rd_T49 x0 x5).f5) = (wrap64 ((wrap64 ((wrap64 ((wrap64 ((wrap64 (x1 + 1)) + 1)) + 1)) + 1)) + 1)) then (laws_heldPacketS.l0 k x0 (wrap64 ((wrap64 ((wrap64 ((wrap64 ((wrap64 ((wrap64 (x1 + 1)) + 1)) + 1)) + 1)) + 1)) + 1)) (wrap64 (x5 + 1))) else (some (-1))) else (some (-1))) else (some (-1))) else (some (-1))) else (some (-1))) else (some (-1))) else (none)) else (some x1)
def laws_heldPacketS.f (k : Nat) (l0 : List (S49)) (a1 : Int) : Option (Int) := laws_heldPacketS.l0 k l0 a1 0
theorem laws_heldPacketS.mono_l : ∀ k, (∀ y0 y1 y2, LeO (laws_heldPacketS.l0 k y0 y1 y2) (laws_heldPacketS.l0 (k + 1) y0 y1 y2))
  | 0 => fun _ _ _ r h => by simp [laws_heldPacketS.l0] at h
  | k + 1 => by
    have ih0 := laws_heldPacketS.mono_l k
    · intro y0 y1 y2
      unfold laws_heldPacketS.l0
      exact mo
theorem laws_heldPacketS.mono : ∀ a0 a1 k, LeO (laws_heldPacketS.f k a0 a1) (laws_heldPacketS.f (k + 1) a0 a1) := by
  intro a0 a1 k
  have ih0 := laws_heldPacketS.mono_l k
  unfold laws_heldPacketS.f
  exact mo
set_option maxHeartbeats 8000000 in
set_option maxRecDepth 100000 in
theorem laws_heldPacketS.calls (k : Nat) (A0 : Option Addr) (c0 : Nat) (l0 : List (S49)) (a1 : Int) (r : Int) (w : World) (hr0 : Kd.C k49 w A0 l0.length l0) (hc0 : l0.length ≤ c0) (h : laws_heldPacketS.f k l0 a1 = some r) :
    Calls Try.prog 83 #[.slice A0 l0.length c0, .int .i64 a1] w fun e w' => e = .returned (.int .i64 r) ∧ Drawn0 w w' := by
 have HR0 := Aside0.mk hr0
 have HC0 := Aside0.mk hc0
 clear hr0 hc0
 have H : (laws_heldPacketS.l0 k l0 a1 0) = some r := h
 clear h
 have H' := Aside0.mk H
 clear H
 go_enter Try.func83, Try.ntmps83
 go_wp2
 go_loopg [1, 5] k (fun kq v1 v5 w' => ∃ (x1_1 : Int) (x5_1 : Int), v1 = .int .i64 x1_1 ∧ v5 = .int .i64 x5_1 ∧ Aside0 (laws_heldPacketS.l0 kq l0 x1_1 x5_1 = some r) ∧ Aside0 (kq ≤ k) ∧ Drawn0 w w')
 case atStart => exact ⟨(a1), (0), sc, sc, H', kk0, sd⟩
 case round =>
  clear H'
  obtain ⟨x1_1, x5_1, rfl, rfl, HA, HK1, ⟨m1, rfl⟩⟩ := hrel
  cases gk with
  | zero => exact absurd HA.out (by simp [laws_heldPacketS.l0])
  | succ k1 =>
   have H := HA.out
   clear HA
   simp only [laws_heldPacketS.l0] at H
   obtain ⟨c3, H⟩ | ⟨c3, H⟩ := ie_ H
   ·have c3b0 := decide_eq_true c3
    clear c3
    obtain ⟨c4b0, H⟩ := id_ H
    obtain ⟨c5, H⟩ | ⟨c5, H⟩ := ie_ H
    ·have c5b0 : (((rd_T49 l0 x5_1).f0) == x1_1) = true := beq_iff_eq.mpr c5
     have c5b1 : (((rd_T49 l0 x5_1).f0) != x1_1) = false := bne_eq_false_iff_eq.mpr c5
     clear c5
     obtain ⟨c6, H⟩ | ⟨c6, H⟩ := ie_ H
     ·have c6b0 : (((rd_T49 l0 x5_1).f1) == (wrap64 (x1_1 + 1))) = true := beq_iff_eq.mpr c6
      have c6b1 : (((rd_T49 l0 x5_1).f1) != (wrap64 (x1_1 + 1))) = false := bne_eq_false_iff_eq.mpr c6
      clear c6
      obtain ⟨c7, H⟩ | ⟨c7, H⟩ := ie_ H
      ·have c7b0 : (((rd_T49 l0 x5_1).f2) == (wrap64 ((wrap64 (x1_1 + 1)) + 1))) = true := beq_iff_eq.mpr c7
       have c7b1 : (((rd_T49 l0 x5_1).f2) != (wrap64 ((wrap64 (x1_1 + 1)) + 1))) = false := bne_eq_false_iff_eq.mpr c7
       clear c7
       obtain ⟨c8, H⟩ | ⟨c8, H⟩ := ie_ H
       ·have c8b0 : (((rd_T49 l0 x5_1).f3) == (wrap64 ((wrap64 ((wrap64 (x1_1 + 1)) + 1)) + 1))) = true := beq_iff_eq.mpr c8
        have c8b1 : (((rd_T49 l0 x5_1).f3) != (wrap64 ((wrap64 ((wrap64 (x1_1 + 1)) + 1)) + 1))) = false := bne_eq_false_iff_eq.mpr c8
        clear c8
        obtain ⟨c9, H⟩ | ⟨c9, H⟩ := ie_ H
        ·have c9b0 : (((rd_T49 l0 x5_1).f4) == (wrap64 ((wrap64 ((wrap64 ((wrap64 (x1_1 + 1)) + 1)) + 1)) + 1))) = true := beq_iff_eq.mpr c9
         have c9b1 : (((rd_T49 l0 x5_1).f4) != (wrap64 ((wrap64 ((wrap64 ((wrap64 (x1_1 + 1)) + 1)) + 1)) + 1))) = false := bne_eq_false_iff_eq.mpr c9
         clear c9
         obtain ⟨c10, H⟩ | ⟨c10, H⟩ := ie_ H
         ·have c10b0 : (((rd_T49 l0 x5_1).f5) == (wrap64 ((wrap64 ((wrap64 ((wrap64 ((wrap64 (x1_1 + 1)) + 1)) + 1)) + 1)) + 1))) = true := beq_iff_eq.mpr c10
          have c10b1 : (((rd_T49 l0 x5_1).f5) != (wrap64 ((wrap64 ((wrap64 ((wrap64 ((wrap64 (x1_1 + 1)) + 1)) + 1)) + 1)) + 1))) = false := bne_eq_false_iff_eq.mpr c10
          clear c10
          have H' := Aside0.mk H
          clear H
          have p190 : 0 ≤ (x5_1 : Int) := sa
          have q190 : x5_1 < (l0.length : Int) := sa
          obtain ⟨ad190, e190, hx190_0, hx190_1, hx190_2, hx190_3, hx190_4, hx190_5⟩ := at_T49 HR0.out x5_1 p190 q190
          cases e190
          replace p190 := eq_true p190
          replace q190 := eq_true q190
          have p191 : 0 ≤ (x5_1 : Int) := sa
          have q191 : x5_1 < (l0.length : Int) := sa
          obtain ⟨ad191, e191, hx191_0, hx191_1, hx191_2, hx191_3, hx191_4, hx191_5⟩ := at_T49 HR0.out x5_1 p191 q191
          obtain rfl : ad190 = ad191 := (by injection e191)
          replace p191 := eq_true p191
          replace q191 := eq_true q191
          have p192 : 0 ≤ (x5_1 : Int) := sa
          have q192 : x5_1 < (l0.length : Int) := sa
          obtain ⟨ad192, e192, hx192_0, hx192_1, hx192_2, hx192_3, hx192_4, hx192_5⟩ := at_T49 HR0.out x5_1 p192 q192
          obtain rfl : ad190 = ad192 := (by injection e192)
          replace p192 := eq_true p192
          replace q192 := eq_true q192
          have p193 : 0 ≤ (x5_1 : Int) := sa
          have q193 : x5_1 < (l0.length : Int) := sa
          obtain ⟨ad193, e193, hx193_0, hx193_1, hx193_2, hx193_3, hx193_4, hx193_5⟩ := at_T49 HR0.out x5_1 p193 q193
          obtain rfl : ad190 = ad193 := (by injection e193)
          replace p193 := eq_true p193
          replace q193 := eq_true q193
          have p194 : 0 ≤ (x5_1 : Int) := sa
          have q194 : x5_1 < (l0.length : Int) := sa
          obtain ⟨ad194, e194, hx194_0, hx194_1, hx194_2, hx194_3, hx194_4, hx194_5⟩ := at_T49 HR0.out x5_1 p194 q194
          obtain rfl : ad190 = ad194 := (by injection e194)
          replace p194 := eq_true p194
          replace q194 := eq_true q194
          have p195 : 0 ≤ (x5_1 : Int) := sa
          have q195 : x5_1 < (l0.length : Int) := sa
          obtain ⟨ad195, e195, hx195_0, hx195_1, hx195_2, hx195_3, hx195_4, hx195_5⟩ := at_T49 HR0.out x5_1 p195 q195
          obtain rfl : ad190 = ad195 := (by injection e195)
          replace p195 := eq_true p195
          replace q195 := eq_true q195
          go_wp2
          go_roundg k1
          case measure => have := HK1.out; omega
          case rel => exact ⟨(wrap64 ((wrap64 ((wrap64 ((wrap64 ((wrap64 ((wrap64 (x1_1 + 1)) + 1)) + 1)) + 1)) + 1)) + 1)), (wrap64 (x5_1 + 1)), sc, sc, H', kk1, sd⟩
         ·have c10b0 : (((rd_T49 l0 x5_1).f5) == (wrap64 ((wrap64 ((wrap64 ((wrap64 ((wrap64 (x1_1 + 1)) + 1)) + 1)) + 1)) + 1))) = false := beq_eq_false_iff_ne.mpr c10
          have c10b1 : (((rd_T49 l0 x5_1).f5) != (wrap64 ((wrap64 ((wrap64 ((wrap64 ((wrap64 (x1_1 + 1)) + 1)) + 1)) + 1)) + 1))) = true := bne_iff_ne.mpr c10
          obtain rfl := Option.some.inj H
          have p190 : 0 ≤ (x5_1 : Int) := sa
          have q190 : x5_1 < (l0.length : Int) := sa
          obtain ⟨ad190, e190, hx190_0, hx190_1, hx190_2, hx190_3, hx190_4, hx190_5⟩ := at_T49 HR0.out x5_1 p190 q190
          cases e190
          replace p190 := eq_true p190
          replace q190 := eq_true q190
          have p191 : 0 ≤ (x5_1 : Int) := sa
          have q191 : x5_1 < (l0.length : Int) := sa
          obtain ⟨ad191, e191, hx191_0, hx191_1, hx191_2, hx191_3, hx191_4, hx191_5⟩ := at_T49 HR0.out x5_1 p191 q191
          obtain rfl : ad190 = ad191 := (by injection e191)
          replace p191 := eq_true p191
          replace q191 := eq_true q191
          have p192 : 0 ≤ (x5_1 : Int) := sa
          have q192 : x5_1 < (l0.length : Int) := sa
          obtain ⟨ad192, e192, hx192_0, hx192_1, hx192_2, hx192_3, hx192_4, hx192_5⟩ := at_T49 HR0.out x5_1 p192 q192
          obtain rfl : ad190 = ad192 := (by injection e192)
          replace p192 := eq_true p192
          replace q192 := eq_true q192
          have p193 : 0 ≤ (x5_1 : Int) := sa
          have q193 : x5_1 < (l0.length : Int) := sa
          obtain ⟨ad193, e193, hx193_0, hx193_1, hx193_2, hx193_3, hx193_4, hx193_5⟩ := at_T49 HR0.out x5_1 p193 q193
          obtain rfl : ad190 = ad193 := (by injection e193)
          replace p193 := eq_true p193
          replace q193 := eq_true q193
          have p194 : 0 ≤ (x5_1 : Int) := sa
          have q194 : x5_1 < (l0.length : Int) := sa
          obtain ⟨ad194, e194, hx194_0, hx194_1, hx194_2, hx194_3, hx194_4, hx194_5⟩ := at_T49 HR0.out x5_1 p194 q194
          obtain rfl : ad190 = ad194 := (by injection e194)
          replace p194 := eq_true p194
          replace q194 := eq_true q194
          have p195 : 0 ≤ (x5_1 : Int) := sa
          have q195 : x5_1 < (l0.length : Int) := sa
          obtain ⟨ad195, e195, hx195_0, hx195_1, hx195_2, hx195_3, hx195_4, hx195_5⟩ := at_T49 HR0.out x5_1 p195 q195
          obtain rfl : ad190 = ad195 := (by injection e195)
          replace p195 := eq_true p195
          replace q195 := eq_true q195
          go_wp2
          go_ret
          exact ⟨sc, sd⟩
        ·have c9b0 : (((rd_T49 l0 x5_1).f4) == (wrap64 ((wrap64 ((wrap64 ((wrap64 (x1_1 + 1)) + 1)) + 1)) + 1))) = false := beq_eq_false_iff_ne.mpr c9
         have c9b1 : (((rd_T49 l0 x5_1).f4) != (wrap64 ((wrap64 ((wrap64 ((wrap64 (x1_1 + 1)) + 1)) + 1)) + 1))) = true := bne_iff_ne.mpr c9
         obtain rfl := Option.some.inj H
         have p190 : 0 ≤ (x5_1 : Int) := sa
         have q190 : x5_1 < (l0.length : Int) := sa
         obtain ⟨ad190, e190, hx190_0, hx190_1, hx190_2, hx190_3, hx190_4, hx190_5⟩ := at_T49 HR0.out x5_1 p190 q190
         cases e190
         replace p190 := eq_true p190
         replace q190 := eq_true q190
         have p191 : 0 ≤ (x5_1 : Int) := sa
         have q191 : x5_1 < (l0.length : Int) := sa
         obtain ⟨ad191, e191, hx191_0, hx191_1, hx191_2, hx191_3, hx191_4, hx191_5⟩ := at_T49 HR0.out x5_1 p191 q191
         obtain rfl : ad190 = ad191 := (by injection e191)
         replace p191 := eq_true p191
         replace q191 := eq_true q191
         have p192 : 0 ≤ (x5_1 : Int) := sa
         have q192 : x5_1 < (l0.length : Int) := sa
         obtain ⟨ad192, e192, hx192_0, hx192_1, hx192_2, hx192_3, hx192_4, hx192_5⟩ := at_T49 HR0.out x5_1 p192 q192
         obtain rfl : ad190 = ad192 := (by injection e192)
         replace p192 := eq_true p192
         replace q192 := eq_true q192
         have p193 : 0 ≤ (x5_1 : Int) := sa
         have q193 : x5_1 < (l0.length : Int) := sa
         obtain ⟨ad193, e193, hx193_0, hx193_1, hx193_2, hx193_3, hx193_4, hx193_5⟩ := at_T49 HR0.out x5_1 p193 q193
         obtain rfl : ad190 = ad193 := (by injection e193)
         replace p193 := eq_true p193
         replace q193 := eq_true q193
         have p194 : 0 ≤ (x5_1 : Int) := sa
         have q194 : x5_1 < (l0.length : Int) := sa
         obtain ⟨ad194, e194, hx194_0, hx194_1, hx194_2, hx194_3, hx194_4, hx194_5⟩ := at_T49 HR0.out x5_1 p194 q194
         obtain rfl : ad190 = ad194 := (by injection e194)
         replace p194 := eq_true p194
         replace q194 := eq_true q194
         go_wp2
         go_ret
         exact ⟨sc, sd⟩
       ·have c8b0 : (((rd_T49 l0 x5_1).f3) == (wrap64 ((wrap64 ((wrap64 (x1_1 + 1)) + 1)) + 1))) = false := beq_eq_false_iff_ne.mpr c8
        have c8b1 : (((rd_T49 l0 x5_1).f3) != (wrap64 ((wrap64 ((wrap64 (x1_1 + 1)) + 1)) + 1))) = true := bne_iff_ne.mpr c8
        obtain rfl := Option.some.inj H
        have p190 : 0 ≤ (x5_1 : Int) := sa
        have q190 : x5_1 < (l0.length : Int) := sa
        obtain ⟨ad190, e190, hx190_0, hx190_1, hx190_2, hx190_3, hx190_4, hx190_5⟩ := at_T49 HR0.out x5_1 p190 q190
        cases e190
        replace p190 := eq_true p190
        replace q190 := eq_true q190
        have p191 : 0 ≤ (x5_1 : Int) := sa
        have q191 : x5_1 < (l0.length : Int) := sa
        obtain ⟨ad191, e191, hx191_0, hx191_1, hx191_2, hx191_3, hx191_4, hx191_5⟩ := at_T49 HR0.out x5_1 p191 q191
        obtain rfl : ad190 = ad191 := (by injection e191)
        replace p191 := eq_true p191
        replace q191 := eq_true q191
        have p192 : 0 ≤ (x5_1 : Int) := sa
        have q192 : x5_1 < (l0.length : Int) := sa
        obtain ⟨ad192, e192, hx192_0, hx192_1, hx192_2, hx192_3, hx192_4, hx192_5⟩ := at_T49 HR0.out x5_1 p192 q192
        obtain rfl : ad190 = ad192 := (by injection e192)
        replace p192 := eq_true p192
        replace q192 := eq_true q192
        have p193 : 0 ≤ (x5_1 : Int) := sa
        have q193 : x5_1 < (l0.length : Int) := sa
        obtain ⟨ad193, e193, hx193_0, hx193_1, hx193_2, hx193_3, hx193_4, hx193_5⟩ := at_T49 HR0.out x5_1 p193 q193
        obtain rfl : ad190 = ad193 := (by injection e193)
        replace p193 := eq_true p193
        replace q193 := eq_true q193
        go_wp2
        go_ret
        exact ⟨sc, sd⟩
      ·have c7b0 : (((rd_T49 l0 x5_1).f2) == (wrap64 ((wrap64 (x1_1 + 1)) + 1))) = false := beq_eq_false_iff_ne.mpr c7
       have c7b1 : (((rd_T49 l0 x5_1).f2) != (wrap64 ((wrap64 (x1_1 + 1)) + 1))) = true := bne_iff_ne.mpr c7
       obtain rfl := Option.some.inj H
       have p190 : 0 ≤ (x5_1 : Int) := sa
       have q190 : x5_1 < (l0.length : Int) := sa
       obtain ⟨ad190, e190, hx190_0, hx190_1, hx190_2, hx190_3, hx190_4, hx190_5⟩ := at_T49 HR0.out x5_1 p190 q190
       cases e190
       replace p190 := eq_true p190
       replace q190 := eq_true q190
       have p191 : 0 ≤ (x5_1 : Int) := sa
       have q191 : x5_1 < (l0.length : Int) := sa
       obtain ⟨ad191, e191, hx191_0, hx191_1, hx191_2, hx191_3, hx191_4, hx191_5⟩ := at_T49 HR0.out x5_1 p191 q191
       obtain rfl : ad190 = ad191 := (by injection e191)
       replace p191 := eq_true p191
       replace q191 := eq_true q191
       have p192 : 0 ≤ (x5_1 : Int) := sa
       have q192 : x5_1 < (l0.length : Int) := sa
       obtain ⟨ad192, e192, hx192_0, hx192_1, hx192_2, hx192_3, hx192_4, hx192_5⟩ := at_T49 HR0.out x5_1 p192 q192
       obtain rfl : ad190 = ad192 := (by injection e192)
       replace p192 := eq_true p192
       replace q192 := eq_true q192
       go_wp2
       go_ret
       exact ⟨sc, sd⟩
     ·have c6b0 : (((rd_T49 l0 x5_1).f1) == (wrap64 (x1_1 + 1))) = false := beq_eq_false_iff_ne.mpr c6
      have c6b1 : (((rd_T49 l0 x5_1).f1) != (wrap64 (x1_1 + 1))) = true := bne_iff_ne.mpr c6
      obtain rfl := Option.some.inj H
      have p190 : 0 ≤ (x5_1 : Int) := sa
      have q190 : x5_1 < (l0.length : Int) := sa
      obtain ⟨ad190, e190, hx190_0, hx190_1, hx190_2, hx190_3, hx190_4, hx190_5⟩ := at_T49 HR0.out x5_1 p190 q190
      cases e190
      replace p190 := eq_true p190
      replace q190 := eq_true q190
      have p191 : 0 ≤ (x5_1 : Int) := sa
      have q191 : x5_1 < (l0.length : Int) := sa
      obtain ⟨ad191, e191, hx191_0, hx191_1, hx191_2, hx191_3, hx191_4, hx191_5⟩ := at_T49 HR0.out x5_1 p191 q191
      obtain rfl : ad190 = ad191 := (by injection e191)
      replace p191 := eq_true p191
      replace q191 := eq_true q191
      go_wp2
      go_ret
      exact ⟨sc, sd⟩
    ·have c5b0 : (((rd_T49 l0 x5_1).f0) == x1_1) = false := beq_eq_false_iff_ne.mpr c5
     have c5b1 : (((rd_T49 l0 x5_1).f0) != x1_1) = true := bne_iff_ne.mpr c5
     obtain rfl := Option.some.inj H
     have p190 : 0 ≤ (x5_1 : Int) := sa
     have q190 : x5_1 < (l0.length : Int) := sa
     obtain ⟨ad190, e190, hx190_0, hx190_1, hx190_2, hx190_3, hx190_4, hx190_5⟩ := at_T49 HR0.out x5_1 p190 q190
     cases e190
     replace p190 := eq_true p190
     replace q190 := eq_true q190
     go_wp2
     go_ret
     exact ⟨sc, sd⟩
   ·have c3b0 := decide_eq_false c3
    clear c3
    obtain rfl := Option.some.inj H
    go_wp2
    go_ret
    exact ⟨sc, sd⟩

/-! ### laws_heldQueue: function 33 -/
def laws_heldQueue.f (k : Nat) (l0_0 : List (S49)) (a1 : Int) : Option (Int) := (laws_heldPacketS.f k l0_0 a1).bind fun t197 => (if t197 < 0 then (some (-1)) else (some t197))
theorem laws_heldQueue.mono : ∀ a0 a1 k, LeO (laws_heldQueue.f k a0 a1) (laws_heldQueue.f (k + 1) a0 a1) := by
  intro a0 a1 k
  unfold laws_heldQueue.f
  have m0 := @laws_heldPacketS.mono
  exact mo
set_option maxHeartbeats 8000000 in
set_option maxRecDepth 100000 in
theorem laws_heldQueue.calls (k : Nat) (A0_0 : Option Addr) (c0_0 : Nat) (l0_0 : List (S49)) (a1 : Int) (r : Int) (w : World) (hr0_0 : Kd.C k49 w A0_0 l0_0.length l0_0) (hc0_0 : l0_0.length ≤ c0_0) (h : laws_heldQueue.f k l0_0 a1 = some r) :
    Calls Try.prog 33 #[.agg #[.slice A0_0 l0_0.length c0_0], .int .i64 a1] w fun e w' => e = .returned (.int .i64 r) ∧ Below w.heap.size w w' := by
 have hu41 := Try.underlying41
 have HR0_0 := Aside0.mk hr0_0
 have HC0_0 := Aside0.mk hc0_0
 clear hr0_0 hc0_0
 have HB := Aside0.mk (Below.refl w.heap.size w)
 have H : ((laws_heldPacketS.f k l0_0 a1).bind fun t197 => (if t197 < 0 then (some (-1)) else (some t197))) = some r := h
 clear h
 obtain ⟨t197, A3, H⟩ := bnd H
 obtain ⟨c4, H⟩ | ⟨c4, H⟩ := ie_ H
 ·have c4b0 := decide_eq_true c4
  clear c4
  obtain rfl := Option.some.inj H
  go_enter Try.func33, Try.ntmps33
  go_wp2_with (first | ((with_reducible refine gate_dst (N := 2) rfl ?_); refine bx 2 #[.slice A0_0 l0_0.length c0_0] 41 ?_; intro gb196 hg w5 hbox hb; have GW196 := bz w hg; have GE196 := bz w hg; replace HB := bs hb; have BK196 := Aside0.mk hbox; clear hb hbox hg; obtain ⟨hcz6_0, hfz6_0⟩ := cc1 BK196) | ((with_reducible refine gate_callee (f := 83) rfl ?_); refine gL (some 8) Try.func83 #[.slice A0_0 l0_0.length c0_0, .int .i64 a1] ?_; (with_reducible refine (laws_heldPacketS.calls k _ _ l0_0 a1 t197 _ ?side1 ?side2 A3.out).mono ?_); (case side1 => exact cb HR0_0); (case side2 => exact HC0_0.out); rintro e w' ⟨rfl, ⟨nd, rfl⟩⟩; refine ⟨_, rfl, ?_⟩))
  go_ret
  exact ⟨se, sbw⟩
 ·have c4b0 := decide_eq_false c4
  clear c4
  obtain rfl := Option.some.inj H
  go_enter Try.func33, Try.ntmps33
  go_wp2_with (first | ((with_reducible refine gate_dst (N := 2) rfl ?_); refine bx 2 #[.slice A0_0 l0_0.length c0_0] 41 ?_; intro gb196 hg w7 hbox hb; have GW196 := bz w hg; have GE196 := bz w hg; replace HB := bs hb; have BK196 := Aside0.mk hbox; clear hb hbox hg; obtain ⟨hcz8_0, hfz8_0⟩ := cc1 BK196) | ((with_reducible refine gate_callee (f := 83) rfl ?_); refine gL (some 8) Try.func83 #[.slice A0_0 l0_0.length c0_0, .int .i64 a1] ?_; (with_reducible refine (laws_heldPacketS.calls k _ _ l0_0 a1 t197 _ ?side1 ?side2 A3.out).mono ?_); (case side1 => exact cb HR0_0); (case side2 => exact HC0_0.out); rintro e w' ⟨rfl, ⟨nd, rfl⟩⟩; refine ⟨_, rfl, ?_⟩))
  go_ret
  exact ⟨se, sbw⟩

end Go.Proofs.Ytaciciobhfoglaa.QFnExactTakePacket
