/- Printed by a program of the session. Conditions: none. (squeezed). -/
import Derived.Test.YthnlkgbhohchoaaGreatVFnExactRepairedAtQFnExactRepairedAtx13
namespace Go.Proofs.YthnlkgbhohchoaaGreat.QFnExactRepairedAt
set_option maxHeartbeats 8000000
set_option maxRecDepth 100000
open Go.RowKit Go.Proofs.YthnlkgbhohchoaaGreatW.PrintWords Go.Proofs.YthnlkgbhohchoaaGreatW.PrintLast Go.Proofs.YthnlkgbhohchoaaGreatW.PrintMore Go.Proofs.YthnlkgbhohchoaaGreat.Open Go.Proofs.YthnlkgbhohchoaaGreat.Sq
attribute [local go_sem] max2_int min2_int max_two min_two max_three min_three max_four min_four   -- for this text's walks alone
attribute [local go_sem] isSome_set
set_option linter.unusedVariables false
set_option linter.unusedSimpArgs false

-- NOT PRINTED: function 111 (impl_Piece)

def impl_IsSpan.f (a0_0 : Int) (a0_1 : Int) : Option (Bool) := if a0_0 ≥ 0 then (if a0_1 ≤ 1000 then (some (decide (a0_0 < a0_1))) else (some false)) else (some false)
theorem e15_0 {P : Prop} (h : P := by
 obtain rfl := Option.some.inj H
 go_enter Tryz.func46, Tryz.ntmps46
 go_wp2_with (first | ((with_reducible refine gd 1 rfl ?_); refine bx 1 #[.int .i64 a0_0, .int .i64 a0_1] 73 ?_; intro gb556 hg w4 hbox hb; have GW556 := bz w hg; have GE556 := bz w hg; replace HB := bs hb; have BK556 := am hbox; clear hb hbox hg; obtain ⟨_, _, _, _⟩ := cc2 BK556))
 first
 | have _ := c3b0
   go_ret
   exact ⟨se, sbw⟩
 | go_ret
   exact ⟨se, sbw⟩
   ) : P := h
theorem impl_IsSpan.calls (a0_0 : Int) (a0_1 : Int) (r : Bool) (w : World) (h : impl_IsSpan.f a0_0 a0_1 = some r) :
    Calls Tryz.prog 46 #[.agg #[.int .i64 a0_0, .int .i64 a0_1]] w fun e w' => e = .returned (.bool r) ∧ Below w.heap.size w w' := by
 have hu73 := Tryz.underlying73
 have HB := am (Below.refl w.heap.size w)
 have H := h; unfold impl_IsSpan.f at H
 clear h
 obtain ⟨-, c2b0, H⟩ | ⟨-, c2b0, H⟩ := ic_ H
 ·obtain ⟨-, c3b0, H⟩ | ⟨-, c3b0, H⟩ := ic_ H
  ·exact e15_0
  ·exact e15_0
 ·exact e15_0
def impl_InSpan.f (a0_0 : Int) (a0_1 : Int) (a1 : Int) : Option (Bool) := (impl_IsSpan.f a0_0 a0_1).bind fun t558 => (if t558 = true then (if a0_0 ≤ a1 then (some (decide (a1 < a0_1))) else (some false)) else (some false))
theorem e15_1 {P : Prop} (h : P := by
 obtain rfl := Option.some.inj H
 go_enter Tryz.func113, Tryz.ntmps113
 go_wp2_with (first | ((with_reducible refine gd 2 rfl ?_); refine bx 2 #[.int .i64 a0_0, .int .i64 a0_1] 73 ?_; intro gb557 hg w6 hbox hb; have GW557 := bz w hg; have GE557 := bz w hg; replace HB := bs hb; have BK557 := am hbox; clear hb hbox hg; obtain ⟨_, _, _, _⟩ := cc2 BK557) | (have _ := c5b0; (with_reducible refine gc 46 rfl ?_); refine gL (some 6) Tryz.func46 #[.agg #[.int .i64 a0_0, .int .i64 a0_1]] ?_; (with_reducible refine (impl_IsSpan.calls a0_0 a0_1 true _ A3.out).mono ?_); rintro e w8 ⟨rfl, hb⟩; refine ⟨_, rfl, ?_⟩; replace BK557 := bb BK557 hb; replace HB := bsw hb; (try clear hb); obtain ⟨_, _, _, _⟩ := cc2 BK557) | ((with_reducible refine gc 46 rfl ?_); refine gL (some 6) Tryz.func46 #[.agg #[.int .i64 a0_0, .int .i64 a0_1]] ?_; (with_reducible refine (impl_IsSpan.calls a0_0 a0_1 false _ A3.out).mono ?_); rintro e w16 ⟨rfl, hb⟩; refine ⟨_, rfl, ?_⟩; replace BK557 := bb BK557 hb; replace HB := bsw hb; (try clear hb)))
 first
 | have _ := c5b0
   go_ret
   exact ⟨se, sbw⟩
 | go_ret
   exact ⟨se, sbw⟩
   ) : P := h
theorem impl_InSpan.calls (a0_0 : Int) (a0_1 : Int) (a1 : Int) (r : Bool) (w : World) (h : impl_InSpan.f a0_0 a0_1 a1 = some r) :
    Calls Tryz.prog 113 #[.agg #[.int .i64 a0_0, .int .i64 a0_1], .int .i64 a1] w fun e w' => e = .returned (.bool r) ∧ Below w.heap.size w w' := by
 have hu73 := Tryz.underlying73
 have HB := am (Below.refl w.heap.size w)
 have H := h; unfold impl_InSpan.f at H
 clear h
 obtain ⟨t558, A3, H⟩ := bnd H
 obtain rfl | rfl := tt t558
 ·replace H := ip H
  obtain ⟨-, c5b0, H⟩ | ⟨-, c5b0, H⟩ := ic_ H
  ·exact e15_1
  ·exact e15_1
 ·replace H := im H
  exact e15_1
-- NOT PRINTED: function 112 (impl_PieceAt_1)

def impl_PieceAt.hit (x : S76) (t : Int) : Bool := impl_InSpan.f x.f0.f0 x.f0.f1 t == some true
def impl_PieceAt.go (t : Int) : List S76 → Nat → Int
  | [], _ => -1
  | x :: xs, i => if impl_PieceAt.hit x t = true then (i : Int) else impl_PieceAt.go t xs (i + 1)
def impl_PieceAt.f (a0_0 : Int) (a0_1 : Int) (a0_2 : Int) (l0_3 : List (S76)) (a1 : Int) : Option (Int) := if l0_3.length ≤ 4611686018427387904 then some (impl_PieceAt.go a1 l0_3 0) else none
theorem impl_PieceAt.tot (a b t : Int) : ∃ q, impl_InSpan.f a b t = some q := by
  have h : ∃ q, impl_IsSpan.f a b = some q := by
    unfold impl_IsSpan.f
    repeat' split
    all_goals exact ⟨_, rfl⟩
  obtain ⟨q, hq⟩ := h
  unfold impl_InSpan.f
  rw [hq, Option.bind_some]
  repeat' split
  all_goals exact ⟨_, rfl⟩
theorem impl_PieceAt.lit (x : S76) (A2 A3 : Option Addr) (n2 c2 n3 c3 : Nat) (t : Int) (gb : Nat) (W : World) (hc : W.cell? ⟨gb, 0, none⟩ = some (.int .i64 t)) :
    Calls Tryz.prog 112 #[.agg #[.int .i64 x.f0.f0, .int .i64 x.f0.f1, .slice A2 n2 c2, .slice A3 n3 c3], .pointer (some ⟨gb, 0, none⟩)] W fun e w' => e = .returned (.bool (impl_PieceAt.hit x t)) ∧ Below W.heap.size W w' := by
  have hu := Tryz.underlying76
  have hus := Tryz.underlying73
  obtain ⟨q, hq⟩ := impl_PieceAt.tot x.f0.f0 x.f0.f1 t
  rw [show impl_PieceAt.hit x t = q from by unfold impl_PieceAt.hit; rw [hq]; cases q <;> rfl]
  have hlt := World.block_lt_of_cell? W _ hc
  go_enter Tryz.func112, Tryz.ntmps112
  go_wp2_with (first | ((with_reducible refine gd 2 rfl ?_); refine box_event ?hg (N := 2) ?hd (cs := #[.int .i64 x.f0.f0, .int .i64 x.f0.f1, .slice A2 n2 c2, .slice A3 n3 c3]) (t := 76) ?hr ?_; (case hd => rfl); (case hg => rfl); (case hr => first | (go_simp; done) | (go_simp; rfl)); intro gbx hg w3 hbox hb3; subst hg; have hc3 : w3.cell? ⟨gb, 0, none⟩ = some (.int .i64 t) := (hb3.cell hlt).trans hc; have hx0 : w3.cell? ⟨W.heap.size, 0, none⟩ = some (.int .i64 x.f0.f0) := (blk_cell hbox 0).trans rfl; have hx1 : w3.cell? ⟨W.heap.size, 1, none⟩ = some (.int .i64 x.f0.f1) := (blk_cell hbox 1).trans rfl) | (go_at_call 113; refine (impl_InSpan.calls x.f0.f0 x.f0.f1 t q _ hq).mono ?_; rintro e w' ⟨rfl, hb⟩))
  go_ret
  exact ⟨rfl, below_step hb3 hb⟩
theorem impl_PieceAt.idx (A0 : Option Addr) (c0 : Nat) (l : List S76) (t : Int) (gb : Nat) (w : World) (hr : Kd.C k76 w A0 l.length l) (hm : l.length ≤ 4611686018427387904) (hc : w.cell? ⟨gb, 0, none⟩ = some (.int .i64 t)) :
    Calls Tryz.prog 111 #[.slice A0 l.length c0, .func (.func 112) #[] #[.pointer (some ⟨gb, 0, none⟩)]] w fun e w' => e = .returned (.int .i64 (impl_PieceAt.go t l 0)) ∧ Below w.heap.size w w' := by
  have hu := Tryz.underlying76
  have hlt := World.block_lt_of_cell? w _ hc
  go_enter Tryz.func111, Tryz.ntmps111
  go_wp2
  go_loopg [5, 8] l.length (fun gg _ s8 wr => ∃ i : Int, 0 ≤ i ∧ i ≤ (l.length : Int) ∧ (l.length : Int) - i ≤ gg ∧ s8 = .int .i64 i ∧ Aside0 (Below w.heap.size w wr) ∧ Aside0 (impl_PieceAt.go t (l.drop i.toNat) i.toNat = impl_PieceAt.go t l 0))
  case atStart => exact ⟨0, by omega, by omega, by omega, rfl, ⟨Below.refl _ w⟩, ⟨rfl⟩⟩
  case round =>
    obtain ⟨i, hi0, hi1, hg, rfl, BW, HI⟩ := hrel
    by_cases hlt2 : i < (l.length : Int)
    · obtain ⟨ad, A2, c2, A3, c3, e0, hx0, hx1, hx2, hx3, _⟩ := at_T76 hr i hi0 hlt2
      cases e0
      replace hx0 := (BW.out.cell (World.block_lt_of_cell? w _ hx0)).trans hx0
      replace hx1 := (BW.out.cell (World.block_lt_of_cell? w _ hx1)).trans hx1
      replace hx2 := (BW.out.cell (World.block_lt_of_cell? w _ hx2)).trans hx2
      replace hx3 := (BW.out.cell (World.block_lt_of_cell? w _ hx3)).trans hx3
      have hc' : wr.cell? ⟨gb, 0, none⟩ = some (.int .i64 t) := (BW.out.cell hlt).trans hc
      have hcall := impl_PieceAt.lit (rd_T76 l i) A2 A3 (rd_T76 l i).f1.length c2 (rd_T76 l i).f2.length c3 t gb wr hc'
      have hd : l.drop i.toNat = rd_T76 l i :: l.drop (i.toNat + 1) := by
        have hlt3 : i.toNat < l.length := by omega
        rw [List.drop_eq_getElem_cons hlt3, show rd_T76 l i = l.getD i.toNat z76 from rfl, List.getD_eq_getElem?_getD, List.getElem?_eq_getElem hlt3]
        rfl
      cases hq : impl_PieceAt.hit (rd_T76 l i) t with
      | true =>
        rw [hq] at hcall
        go_wp2_with (go_at_call 112; refine hcall.mono ?_; rintro e w' ⟨rfl, hb'⟩)
        go_ret
        refine ⟨?_, below_step BW.out hb'⟩
        rw [← HI.out, hd, impl_PieceAt.go, if_pos hq, Int.toNat_of_nonneg hi0]
        rfl
      | false =>
        rw [hq] at hcall
        go_wp2_with (go_at_call 112; refine hcall.mono ?_; rintro e w' ⟨rfl, hb'⟩)
        go_roundg (l.length - (i.toNat + 1))
        case measure => omega
        case rel =>
          refine ⟨i + 1, by omega, by omega, by omega, by go_num, ⟨below_step BW.out hb'⟩, ⟨?_⟩⟩
          rw [← HI.out, hd, impl_PieceAt.go, if_neg (by rw [hq]; simp), show (i + 1).toNat = i.toNat + 1 by omega]
    · have : i = (l.length : Int) := by omega
      subst this
      go_wp2
      go_ret
      refine ⟨?_, BW.out⟩
      rw [← HI.out, Int.toNat_natCast, List.drop_length, impl_PieceAt.go]
      rfl
theorem impl_PieceAt.calls (a0_0 : Int) (a0_1 : Int) (a0_2 : Int) (A0_3 : Option Addr) (c0_3 : Nat) (l0_3 : List (S76)) (a1 : Int) (r : Int) (w : World) (hr0_3 : Kd.C k76 w A0_3 l0_3.length l0_3) (hc0_3 : l0_3.length ≤ c0_3) (h : impl_PieceAt.f a0_0 a0_1 a0_2 l0_3 a1 = some r) :
    Calls Tryz.prog 73 #[.agg #[.int .i64 a0_0, .int .i64 a0_1, .int .i64 a0_2, .slice A0_3 l0_3.length c0_3], .int .i64 a1] w fun e w' => e = .returned (.int .i64 r) ∧ Below w.heap.size w w' := by
 have hu := Tryz.underlying32
 unfold impl_PieceAt.f at h
 by_cases hm : l0_3.length ≤ 4611686018427387904
 rotate_left
 ·rw [if_neg hm] at h
  cases h
 rw [if_pos hm] at h
 obtain rfl := Option.some.inj h
 go_enter Tryz.func73, Tryz.ntmps73
 go_wp2_with (go_at_call 111; refine (impl_PieceAt.idx A0_3 c0_3 l0_3 a1 _ _ (Kd.C_alloc (Kd.C_alloc hr0_3 _) _) hm ?_).mono ?_; (case refine_1 => go_simp); rintro e w' ⟨rfl, hb⟩)
 go_ret
 exact ⟨rfl, below_step (below_alloc (below_alloc (Below.refl _ _) _) _) hb⟩

def slices_Clone_int_int.f (l0 : List Int) : Option (List Int) := if l0.length < 17592186044416 then some l0 else none
theorem slices_Clone_int_int.calls (A0 : Option Addr) (c0 : Nat) (l0 : List Int) (r : List Int) (w : World) (hr0 : Kd.C (Kd.int .i64) w A0 l0.length l0) (hc0 : l0.length ≤ c0) (h : slices_Clone_int_int.f l0 = some r) :
    Calls Tryz.prog 147 #[.slice A0 l0.length c0] w fun e w' => ∃ v0_ : Value, e = .returned (v0_) ∧ Kd.R (Kd.int .i64) 3 w' w.heap.size (fun _ => True) v0_ r ∧ Below w.heap.size w w' := by
 have hu := Tryz.underlying25
 unfold slices_Clone_int_int.f at h
 by_cases hm : l0.length < 17592186044416
 rotate_left
 ·rw [if_neg hm] at h
  cases h
 rw [if_pos hm] at h
 obtain rfl := Option.some.inj h
 cases A0 with
 | none =>
  have hz : l0 = [] := by
   obtain ⟨_, _, h3⟩ := hr0
   refine List.length_eq_zero_iff.mp (Classical.byContradiction fun hne => ?_)
   obtain ⟨ad, e, _⟩ := h3 (by omega)
   cases e
  subst hz
  have he := Go.Lib.run_eql_slice_nil (P := Tryz.prog) w 25 3 none 0 c0 0 0 hu
  go_enter Tryz.func147, Tryz.ntmps147
  go_wp2
  go_ret
  exact ⟨_, rfl, Kd.R_nil _ _ _ _ _, Below.refl _ _⟩
 | some ad =>
  have he := Go.Lib.run_eql_slice_nil (P := Tryz.prog) w 25 3 (some ad) l0.length c0 0 0 hu
  go_enter Tryz.func147, Tryz.ntmps147
  go_wp2_with (first | ((with_reducible refine gd 5 rfl ?_); refine Kd.R_lit (Kd.int .i64) _ 3 ?hg (N := 5) ?hd (xs := ([] : List Int)) (inner := []) (ok := fun _ => True) (okp := fun _ => True) ?hr ?hp (fun _ hk => hk) trivial (Below.refl _ _) (Nat.le_refl _) (by simp) ?_; (case hd => rfl); (case hg => rfl); (case hr => first | (go_simp; done) | (go_simp; rfl)); (case hp => exact (Reps.none _ _)); intro v5 w5 ho5 hb5 hg_ hnew_; clear hg_ hnew_) | ((with_reducible refine gd 7 rfl ?_); refine Kd.R_append_rows (Kd.int .i64) (w0 := w) w.heap.size rfl (.tmp 5) (.tmp 6) 25 3 (.int .i64 0) 8 rfl Tryz.underlying25 info3 rfl (by decide) (by omega) v5 [] l0 _ _ _ (fun _ => True) (fun _ => False) rfl rfl ?aO ?aR (fun _ _ h => h) (fun _ h => h.elim) ?aF ?aB ?aS ?aL ?_; (case aR => exact Kd.C_below hr0 hb5); (case aB => exact hb5); (case aF => exact (fun _ _ => trivial)); (case aO => exact ho5); (case aS => exact below_size hb5); (case aL => simp only [List.length_nil]; omega); intro v7 w7 ho7 hb7 hg7 hat7))
  go_ret
  rw [List.nil_append] at ho7
  exact ⟨v7, rfl, ho7, hb7⟩

def impl_cloneTable.f (a0_0 : Int) (l0_1 : List Int) (l0_2 : List Int) : Option (Int × List Int × List Int) := (slices_Clone_int_int.f l0_1).bind fun t561 => ((slices_Clone_int_int.f l0_2).bind fun t564 => (some (a0_0, t561, t564)))
def impl_cloneTable.T1 : Bool × List (List Nat × List Nat) := (true, [([], []), ([0], [0]), ([], []), ([2], [2]), ([3], [3]), ([], []), ([5], [5]), ([6, 4], [6]), ([1, 4, 7], [1, 4, 7]), ([8, 7, 0, 1, 2, 3, 4, 5, 6, 7, 8], [8])])
def impl_cloneTable.B1 : List Nat := [0, 1, 0, 4, 12, 0, 32, 124, 255, 511]
theorem impl_cloneTable.tab1 : rtab .any (opsOf Tryz.f114 1) = impl_cloneTable.T1 := by kernel_rfl
theorem impl_cloneTable.bits1 : waitsOk impl_cloneTable.T1.2 impl_cloneTable.B1 = true := by kernel_rfl
theorem impl_cloneTable.calls (a0_0 : Int) (A0_1 : Option Addr) (c0_1 : Nat) (l0_1 : List Int) (A0_2 : Option Addr) (c0_2 : Nat) (l0_2 : List Int) (r1 : Int) (r2 : List Int) (r3 : List Int) (w : World) (hr0_1 : Kd.C (Kd.int .i64) w A0_1 l0_1.length l0_1) (hc0_1 : l0_1.length ≤ c0_1) (hr0_2 : Kd.C (Kd.int .i64) w A0_2 l0_2.length l0_2) (hc0_2 : l0_2.length ≤ c0_2) (h : impl_cloneTable.f a0_0 l0_1 l0_2 = some (r1, r2, r3)) :
    Calls Tryz.prog 114 #[.agg #[.int .i64 a0_0, .slice A0_1 l0_1.length c0_1, .slice A0_2 l0_2.length c0_2]] w fun e w' => ∃ v1_ v2_ : Value, e = .returned (.agg #[.int .i64 r1, v1_, v2_]) ∧ Kd.R (Kd.int .i64) 3 w' w.heap.size (fun k_ => some k_ ≠ (v2_ : Value).ownBlock) v1_ r2 ∧ Kd.R (Kd.int .i64) 3 w' w.heap.size (fun k_ => some k_ ≠ (v1_ : Value).ownBlock) v2_ r3 ∧ Below w.heap.size w w' := by
 have hu50 := Tryz.underlying50
 have HR0_1 := am hr0_1
 have HC0_1 := am hc0_1
 clear hr0_1 hc0_1
 have HR0_2 := am hr0_2
 have HC0_2 := am hc0_2
 clear hr0_2 hc0_2
 have HB := am (Below.refl w.heap.size w)
 have H := h; unfold impl_cloneTable.f at H
 clear h
 obtain ⟨t561, A2, H⟩ := bnd H
 obtain ⟨t564, A3, H⟩ := bnd H
 simp only [Option.some.injEq, Prod.mk.injEq] at H
 obtain ⟨rfl, rfl, rfl⟩ := H
 go_enter Tryz.func114, Tryz.ntmps114
 try go_wp2_with (first | ((with_reducible refine gd 1 rfl ?_); refine bx 1 #[.int .i64 a0_0, .slice A0_1 l0_1.length c0_1, .slice A0_2 l0_2.length c0_2] 50 ?_; intro gb559 hg w4 hbox hb; have GW559 := bz w hg; have GE559 := bz w hg; replace HB := bs hb; have BK559 := am hbox; clear hb hbox hg) | ((with_reducible refine gd 2 rfl ?_); refine bx 2 #[.int .i64 0, .slice none 0 0, .slice none 0 0] 50 ?_; intro gb560 hg w5 hbox hb; have GW560 := bzw w hg; have GE560 := bzw w hg; replace HB := bsw hb; have BK560 := am hbox; have NB559_560 := nl BK559 hg; have NB560_559 := ng BK559 hg; replace BK559 := bb BK559 hb; clear hb hbox hg))
 replace BK559 := am (blk_drew BK559.out)
 replace BK560 := am (blk_drew BK560.out)
 replace HB := am (below_drew1 HB.out)
 refine start_ (n := 10) (S := fun w' => w'.cell? ⟨gb559, 0, none⟩ = some (.int .i64 a0_0) ∧ w'.cell? ⟨gb559, 1, none⟩ = some (.slice A0_1 l0_1.length c0_1) ∧ w'.cell? ⟨gb559, 2, none⟩ = some (.slice A0_2 l0_2.length c0_2)) (ds := []) (bt 10 0) (by kernel_rfl) rfl (by kernel_rfl) ⟨bc0 BK559, bc1 BK559, bc2 BK559⟩ (fun hHeld => ?_); refine with_tabW impl_cloneTable.tab1 impl_cloneTable.bits1 (fun HT_ HW_ => ?_)
 generalize w5.drew = w6 at BK559 BK560 HB hHeld ⊢
 refine r3_ 0 2 5 ?_
 refine tv_ 1 ?_
 refine tv_ 3 ?_
 refine tv_ 6 ?_
 refine ow_ 4 (fun K hK => ?_)
 refine goes_ Tryz.func147 (by kernel_rfl) rfl #[.slice A0_1 l0_1.length c0_1] (by rfl) rfl rfl sl ?_
 with_reducible refine (slices_Clone_int_int.calls _ _ l0_1 t561 _ ?side1 ?side2 A2.out).mono ?_
 (case side1 => exact cb HR0_1)
 (case side2 => exact HC0_1.out)
 rintro e w7 ⟨v562, rfl, ho0, hb⟩
 refine ⟨_, rfl, ?_⟩
 have HO563 := am (Kd.R_lower ho0 (below_size (sbw)))
 replace BK559 := bb BK559 hb
 replace BK560 := bb BK560 hb
 replace HB := bsw hb
 (try clear hb)
 (try clear ho0)
 refine hw_ hK ⟨bc0 BK559, bc1 BK559, bc2 BK559⟩ (fun hHeld => ?_)
 clear hK K
 refine ow_ 7 (fun K hK => ?_)
 refine goes_ Tryz.func147 (by kernel_rfl) rfl #[.slice A0_2 l0_2.length c0_2] (by rfl) rfl rfl sl ?_
 with_reducible refine (slices_Clone_int_int.calls _ _ l0_2 t564 _ ?side1 ?side2 A3.out).mono ?_
 (case side1 => exact cb HR0_2)
 (case side2 => exact HC0_2.out)
 rintro e w8 ⟨v565, rfl, ho0, hb⟩
 refine ⟨_, rfl, ?_⟩
 have HO566 := am (Kd.R_lower (Kd.R_new' ho0 (Kd.R_lt (sr HO563))) (below_size (sbw)))
 replace HO563 := am (Kd.R_elder' (sr HO563) (Kd.R_base ho0) hb)
 replace BK559 := bb BK559 hb
 replace BK560 := bb BK560 hb
 replace HB := bsw hb
 (try clear hb)
 (try clear ho0)
 obtain ⟨Ao9, co9, eo9⟩ := Kd.R_slice HO566.out
 (first | subst eo9 | (injection eo9 with f1_ f2_ f3_; have f4_ := f1_.symm; have f5_ := f3_.symm; clear f1_ f2_ f3_; subst f4_; subst f5_))
 obtain ⟨Ao10, co10, eo10⟩ := Kd.R_slice HO563.out
 (first | subst eo10 | (injection eo10 with f1_ f2_ f3_; have f4_ := f1_.symm; have f5_ := f3_.symm; clear f1_ f2_ f3_; subst f4_; subst f5_))
 refine hw_ hK ⟨bc0 BK559, bc1 BK559, bc2 BK559⟩ (fun hHeld => ?_)
 clear hK K
 refine r1_ 8 ?_
 refine one_ (i := 9) (N := none) (bt 10 1023) rfl rfl (one_of HT_.out (by kernel_rfl)) (by decide) (fun K hK => ?_)
 obtain ⟨hs11, hfs11⟩ := cc1 BK560
 have hns11_0 := NB559_560.out
 have hms11_0 := NB560_559.out
 have hs12 := bc1 BK560
 have hfs12 := bf BK560 1
 have hns12_0 := NB559_560.out
 have hms12_0 := NB560_559.out
 have hs13 := bc2 BK560
 have hfs13 := bf BK560 2
 have hns13_0 := NB559_560.out
 have hms13_0 := NB560_559.out
 refine skip_ (w1 := ?_) (by rfl) rfl ?_ ?_
 rotate_left
 ·go_simp
  rfl
 refine hK.out _ _ ⟨((cell_far (p := ⟨gb560, _, none⟩) NB559_560.out _).trans (((cell_far (p := ⟨gb560, _, none⟩) NB559_560.out _).trans (((cell_far (p := ⟨gb560, _, none⟩) NB559_560.out _).trans (hHeld.1)))))), ((cell_far (p := ⟨gb560, _, none⟩) NB559_560.out _).trans (((cell_far (p := ⟨gb560, _, none⟩) NB559_560.out _).trans (((cell_far (p := ⟨gb560, _, none⟩) NB559_560.out _).trans (hHeld.2.1)))))), ((cell_far (p := ⟨gb560, _, none⟩) NB559_560.out _).trans (((cell_far (p := ⟨gb560, _, none⟩) NB559_560.out _).trans (((cell_far (p := ⟨gb560, _, none⟩) NB559_560.out _).trans (hHeld.2.2))))))⟩ (fun hHeld => ?_)
 clear hK K
 refine done_ (done_of HT_.out (by kernel_rfl)) ?_
 try go_wp2
 refine bodyPost_ret (results_cell_row rfl _ _ gb560 50 #[.int .i64 a0_0, .slice Ao10 t561.length co10, .slice Ao9 t564.length co9] (0, 0) _ rfl (sp BK560) Tryz.underlying50 rfl (by kernel_rfl)) rfl ?_
 exact ⟨_, _, se, by (with_reducible repeat (first | apply Kd.R_alloc | apply Kd.R_drewN | apply Kd.R_drew)); exact Kd.R_mono (h3 HO563 BK560) (fun _ hk => hk.1.2), by (with_reducible repeat (first | apply Kd.R_alloc | apply Kd.R_drewN | apply Kd.R_drew)); exact Kd.R_mono (h3 HO566 BK560) (fun _ hk => hk.1.2), sbw⟩

def impl_TableIn.f (a0_0 : Int) (a0_1 : Int) (a0_2 : Int) (l0_3 : List (S76)) (a1 : Int) (a2 : Int) : Option (Int × List Int × List Int × Bool) := (impl_isIndex.f a1 (l0_3.length : Int)).bind fun t569 => (if t569 = true then (if 0 ≤ a1 then (if a1 < (l0_3.length : Int) then ((impl_isIndex.f a2 (((rd_T76 l0_3 a1).f2).length : Int)).bind fun t571 => (if t571 = true then (if 0 ≤ a2 then (if a2 < (((rd_T76 l0_3 a1).f2).length : Int) then ((impl_cloneTable.f ((rd_T50 ((rd_T76 l0_3 a1).f2) a2).f0) ((rd_T50 ((rd_T76 l0_3 a1).f2) a2).f1) ((rd_T50 ((rd_T76 l0_3 a1).f2) a2).f2)).bind fun bt574 => (some (bt574.1, bt574.2.1, bt574.2.2, true))) else (none)) else (none)) else (some (0, ([] : List Int), ([] : List Int), false)))) else (none)) else (none)) else (some (0, ([] : List Int), ([] : List Int), false)))
theorem e15_2 {P : Prop} (h : P := by
 go_enter Tryz.func74, Tryz.ntmps74
 go_wp2_with (first | ((with_reducible refine gd 3 rfl ?_); (try (refine gate_guard (by rfl) ?_; dsimp only)); refine bx 3 #[.int .i64 a0_0, .int .i64 a0_1, .int .i64 a0_2, .slice A0_3 l0_3.length c0_3] 32 ?_; intro gb567 hg w13 hbox hb; have GW567 := bz w hg; have GE567 := bz w hg; replace HB := bs hb; have BK567 := am hbox; clear hb hbox hg) | ((with_reducible refine gd 6 rfl ?_); (try (refine gate_guard (by rfl) ?_; dsimp only)); refine bx 6 #[.int .i64 0, .slice none 0 0, .slice none 0 0] 50 ?_; intro gb568 hg w14 hbox hb; have GW568 := bzw w hg; have GE568 := bzw w hg; replace HB := bsw hb; have BK568 := am hbox; have NB567_568 := nl BK567 hg; have NB568_567 := ng BK567 hg; replace BK567 := bb BK567 hb; clear hb hbox hg; have hnb15 := NB567_568.out; have hnc15 := NB568_567.out; obtain ⟨_, _, _, _, _, _, _, _⟩ := cc4 BK567) | (have _ := A8; (with_reducible refine gc 55 rfl ?_); refine gL (some 12) Tryz.func55 #[.int .i64 a1, .int .i64 (l0_3.length : Int)] ?_; (with_reducible refine (impl_isIndex.calls a1 (l0_3.length : Int) true _ A4.out).mono ?_); rintro e w' ⟨rfl, ⟨nd, rfl⟩⟩; refine ⟨_, rfl, ?_⟩; obtain ⟨p570, q570, ad570, A570_2, c570_2, A570_3, c570_3, e570, _, _, _, _, hx570_0, hx570_1, hx570_2, hx570_3, HC570_2, HR570_2, HC570_3, HR570_3⟩ := aT_T76 HR0_3 HB a1; cases e570) | (have _ := A12; go_at_call 55; (with_reducible refine (impl_isIndex.calls a2 (((rd_T76 l0_3 a1).f2).length : Int) true _ A8.out).mono ?_); rintro e w' ⟨rfl, ⟨nd, rfl⟩⟩; obtain ⟨p572, q572, ad572, A572_2, c572_2, A572_3, c572_3, e572, _, _, _, _, hx572_0, hx572_1, hx572_2, hx572_3, HC572_2, HR572_2, HC572_3, HR572_3⟩ := aT_T76 HR0_3 HB a1; obtain rfl : ad570 = ad572 := (by injection e572); have ea_ := Option.some.inj (hx570_2.symm.trans hx572_2); injection ea_ with ea_ en_ ec_; subst ea_; subst ec_; clear en_; have ea_ := Option.some.inj (hx570_3.symm.trans hx572_3); injection ea_ with ea_ en_ ec_; subst ea_; subst ec_; clear en_; obtain ⟨p573, q573, ad573, A573_1, c573_1, A573_2, c573_2, e573, _, _, _, hx573_0, hx573_1, hx573_2, HC573_1, HR573_1, HC573_2, HR573_2⟩ := aT_T50 HR572_3 HB a2; cases e573) | (have _ := A12; (with_reducible refine gc 114 rfl ?_); refine gL (some 36) Tryz.func114 #[.agg #[.int .i64 ((rd_T50 ((rd_T76 l0_3 a1).f2) a2).f0), .slice A573_1 ((rd_T50 ((rd_T76 l0_3 a1).f2) a2).f1).length c573_1, .slice A573_2 ((rd_T50 ((rd_T76 l0_3 a1).f2) a2).f2).length c573_2]] ?_; (with_reducible refine (impl_cloneTable.calls ((rd_T50 ((rd_T76 l0_3 a1).f2) a2).f0) _ _ ((rd_T50 ((rd_T76 l0_3 a1).f2) a2).f1) _ _ ((rd_T50 ((rd_T76 l0_3 a1).f2) a2).f2) t574 t575 t578 _ ?side1 ?side2 ?side3 ?side4 A12.out).mono ?_); (case side1 => exact cb HR573_1); (case side2 => exact HC573_1.out); (case side3 => exact cb HR573_2); (case side4 => exact HC573_2.out); rintro e w17 ⟨v576, v579, rfl, ho0, ho1, hb⟩; refine ⟨_, rfl, ?_⟩; have HO577 := am (Kd.R_lower ho0 (below_size (sbw))); have HO580 := am (Kd.R_lower ho1 (below_size (sbw))); replace BK567 := bb BK567 hb; replace BK568 := bb BK568 hb; replace HB := bsw hb; (try clear hb); (try clear ho0); (try clear ho1); obtain ⟨_, _, _, _, _, _⟩ := cc3 BK568; obtain ⟨Ao19, co19, eo19⟩ := Kd.R_slice HO577.out; subst eo19; obtain ⟨Ao20, co20, eo20⟩ := Kd.R_slice HO580.out; subst eo20) | (have _ := A8; go_at_call 55; (with_reducible refine (impl_isIndex.calls a2 (((rd_T76 l0_3 a1).f2).length : Int) false _ A8.out).mono ?_); rintro e w' ⟨rfl, ⟨nd, rfl⟩⟩; obtain ⟨_, _, _, _, _, _⟩ := cc3 BK568) | ((with_reducible refine gc 55 rfl ?_); refine gL (some 12) Tryz.func55 #[.int .i64 a1, .int .i64 (l0_3.length : Int)] ?_; (with_reducible refine (impl_isIndex.calls a1 (l0_3.length : Int) false _ A4.out).mono ?_); rintro e w' ⟨rfl, ⟨nd, rfl⟩⟩; refine ⟨_, rfl, ?_⟩; obtain ⟨_, _, _, _, _, _⟩ := cc3 BK568))
 first
 | have _ := A12
   refine bodyPost_ret (results_ct rfl _ _ gb568 50 #[.int .i64 t574, .slice Ao19 t575.length co19, .slice Ao20 t578.length co20] (0, 0) _ rfl (sp BK568) Tryz.underlying50 rfl (by kernel_rfl)) rfl ?_
   exact ⟨_, _, se, by (with_reducible repeat (first | apply Kd.R_alloc | apply Kd.R_drewN | apply Kd.R_drew)); exact Kd.R_mono (h3 HO577 BK568) (fun _ hk => hk.1), by (with_reducible repeat (first | apply Kd.R_alloc | apply Kd.R_drewN | apply Kd.R_drew)); exact Kd.R_mono (h3 HO580 BK568) (fun _ hk => hk.1), sbw⟩
 | have _ := A8
   refine bodyPost_ret (results_ct rfl _ _ gb568 50 #[.int .i64 0, .slice none 0 0, .slice none 0 0] (0, 0) _ rfl (sp BK568) Tryz.underlying50 rfl (by kernel_rfl)) rfl ?_
   exact ⟨_, _, se, sn, sn, sbw⟩
 | refine bodyPost_ret (results_ct rfl _ _ gb568 50 #[.int .i64 0, .slice none 0 0, .slice none 0 0] (0, 0) _ rfl (sp BK568) Tryz.underlying50 rfl (by kernel_rfl)) rfl ?_
   exact ⟨_, _, se, sn, sn, sbw⟩
   ) : P := h
theorem impl_TableIn.calls (a0_0 : Int) (a0_1 : Int) (a0_2 : Int) (A0_3 : Option Addr) (c0_3 : Nat) (l0_3 : List (S76)) (a1 : Int) (a2 : Int) (r1 : Int) (r2 : List Int) (r3 : List Int) (r4 : Bool) (w : World) (hr0_3 : Kd.C k76 w A0_3 l0_3.length l0_3) (hc0_3 : l0_3.length ≤ c0_3) (h : impl_TableIn.f a0_0 a0_1 a0_2 l0_3 a1 a2 = some (r1, r2, r3, r4)) :
    Calls Tryz.prog 74 #[.agg #[.int .i64 a0_0, .int .i64 a0_1, .int .i64 a0_2, .slice A0_3 l0_3.length c0_3], .int .i64 a1, .int .i64 a2] w fun e w' => ∃ v1_ v2_ : Value, e = .returned (.tuple #[.agg #[.int .i64 r1, v1_, v2_], .bool r4]) ∧ Kd.R (Kd.int .i64) 3 w' w.heap.size (fun k_ => some k_ ≠ (v2_ : Value).ownBlock) v1_ r2 ∧ Kd.R (Kd.int .i64) 3 w' w.heap.size (fun k_ => some k_ ≠ (v1_ : Value).ownBlock) v2_ r3 ∧ Below w.heap.size w w' := by
 have hu32 := Tryz.underlying32
 have hu50 := Tryz.underlying50
 have HR0_3 := am hr0_3
 have HC0_3 := am hc0_3
 clear hr0_3 hc0_3
 have HB := am (Below.refl w.heap.size w)
 have H := h; unfold impl_TableIn.f at H
 clear h
 obtain ⟨t569, A4, H⟩ := bnd H
 obtain rfl | rfl := tt t569
 ·replace H := ip H
  obtain ⟨c6b0, H⟩ := id_ H
  obtain ⟨c7b0, H⟩ := id_ H
  obtain ⟨t571, A8, H⟩ := bnd H
  obtain rfl | rfl := tt t571
  ·replace H := ip H
   obtain ⟨c10b0, H⟩ := id_ H
   obtain ⟨c11b0, H⟩ := id_ H
   obtain ⟨⟨t574, t575, t578⟩, A12, H⟩ := bnd H
   try dsimp only at H
   simp only [Option.some.injEq, Prod.mk.injEq] at H
   obtain ⟨rfl, rfl, rfl, rfl⟩ := H
   exact e15_2
  ·replace H := im H
   simp only [Option.some.injEq, Prod.mk.injEq] at H
   obtain ⟨rfl, rfl, rfl, rfl⟩ := H
   exact e15_2
 ·replace H := im H
  simp only [Option.some.injEq, Prod.mk.injEq] at H
  obtain ⟨rfl, rfl, rfl, rfl⟩ := H
  exact e15_2
def impl_nextIn.f (a0_0 : Int) (a0_1 : Int) (a0_2 : Int) (l0_3 : List (S76)) (a1 : Int) (a2 : Int) (a3 : Int) : Option (Int × Bool) := (impl_TableIn.f a0_0 a0_1 a0_2 l0_3 a1 a2).bind fun bt582 => (if bt582.2.2.2 = true then ((impl_isIndex.f a3 (bt582.2.2.1.length : Int)).bind fun t591 => (if t591 = true then (if 0 ≤ a3 then (if a3 < (bt582.2.2.1.length : Int) then (some (rd bt582.2.2.1 a3, true)) else (none)) else (none)) else (some ((-1), false)))) else (some ((-1), false)))
theorem e15_3 {P : Prop} (h : P := by
 go_enter Tryz.func106, Tryz.ntmps106
 go_wp2_with (first | ((with_reducible refine gd 4 rfl ?_); (try (refine gate_guard (by rfl) ?_; dsimp only)); refine bx 4 #[.int .i64 a0_0, .int .i64 a0_1, .int .i64 a0_2, .slice A0_3 l0_3.length c0_3] 32 ?_; intro gb581 hg w11 hbox hb; have GW581 := bz w hg; have GE581 := bz w hg; replace HB := bs hb; have BK581 := am hbox; clear hb hbox hg; obtain ⟨_, _, _, _, _, _, _, _⟩ := cc4 BK581) | (have _ := A7; (with_reducible refine gc 74 rfl ?_); refine gL (some 16) Tryz.func74 #[.agg #[.int .i64 a0_0, .int .i64 a0_1, .int .i64 a0_2, .slice A0_3 l0_3.length c0_3], .int .i64 a1, .int .i64 a2] ?_; (with_reducible refine (impl_TableIn.calls a0_0 a0_1 a0_2 _ _ l0_3 a1 a2 t582 t583 t586 true _ ?side1 ?side2 A5.out).mono ?_); (case side1 => exact cb HR0_3); (case side2 => exact HC0_3.out); rintro e w13 ⟨v584, v587, rfl, ho0, ho1, hb⟩; refine ⟨_, rfl, ?_⟩; have HO585 := am (Kd.R_lower ho0 (below_size (sbw))); have HO588 := am (Kd.R_lower ho1 (below_size (sbw))); replace BK581 := bb BK581 hb; replace HB := bsw hb; (try clear hb); (try clear ho0); (try clear ho1)) | ((with_reducible refine gd 10 rfl ?_); (try (refine gate_guard (by rfl) ?_; dsimp only)); refine bx 10 #[.int .i64 0, .slice none 0 0, .slice none 0 0] 50 ?_; intro gb590 hg w14 hbox hb; replace HO585 := rb HO585 hb; replace HO588 := rb HO588 hb; have GW590 := bzw w hg; have GE590 := bzw w hg; replace HB := bsw hb; have BK590 := am hbox; have NB581_590 := nl BK581 hg; have NB590_581 := ng BK581 hg; replace BK581 := bb BK581 hb; clear hb hbox hg; have hnb15 := NB590_581.out; have hnc15 := NB581_590.out; obtain ⟨_, _, _, _, _, _⟩ := cc3 BK590; obtain ⟨Ao17, co17, eo17⟩ := Kd.R_slice HO585.out; subst eo17; obtain ⟨Ao18, co18, eo18⟩ := Kd.R_slice HO588.out; subst eo18) | (have _ := c9b0; go_at_call 55; (with_reducible refine (impl_isIndex.calls a3 (t586.length : Int) true _ A7.out).mono ?_); rintro e w' ⟨rfl, ⟨nd, rfl⟩⟩; have p592 : 0 ≤ (a3 : Int) := sa; have q592 : a3 < (t586.length : Int) := sa; obtain ⟨ad592, e592, hx592_0⟩ := Kd.at_int (Kd.R_reads' HO588.out).2.2 a3 p592 q592; cases e592; have hn592_0 : ad592.block ≠ gb590 := Kd.own_blk (Kd.R_ne HO588.out BK590.out (by decide)); have hn592_1 : ad592.block ≠ gb590 := Kd.own_blk (Kd.R_ne HO588.out BK590.out (by decide)); have hn592_2 : ad592.block ≠ gb590 := Kd.own_blk (Kd.R_ne HO588.out BK590.out (by decide)); replace hx592_0 := (cell_far (p := ⟨gb590, 0, none⟩) (by first | (rw [add_block]; exact hn592_0) | exact hn592_0) (.int .i64 t582)).trans hx592_0; replace hx592_0 := (cell_far (p := ⟨gb590, 1, none⟩) (by first | (rw [add_block]; exact hn592_1) | exact hn592_1) (.slice Ao17 t583.length co17)).trans hx592_0; replace hx592_0 := (cell_far (p := ⟨gb590, 2, none⟩) (by first | (rw [add_block]; exact hn592_2) | exact hn592_2) (.slice (some ad592) t586.length co18)).trans hx592_0; clear hn592_0; clear hn592_1; clear hn592_2; replace p592 := eq_true p592; replace q592 := eq_true q592) | (have _ := A7; go_at_call 55; (with_reducible refine (impl_isIndex.calls a3 (t586.length : Int) false _ A7.out).mono ?_); rintro e w' ⟨rfl, ⟨nd, rfl⟩⟩) | ((with_reducible refine gc 74 rfl ?_); refine gL (some 16) Tryz.func74 #[.agg #[.int .i64 a0_0, .int .i64 a0_1, .int .i64 a0_2, .slice A0_3 l0_3.length c0_3], .int .i64 a1, .int .i64 a2] ?_; (with_reducible refine (impl_TableIn.calls a0_0 a0_1 a0_2 _ _ l0_3 a1 a2 t582 t583 t586 false _ ?side1 ?side2 A5.out).mono ?_); (case side1 => exact cb HR0_3); (case side2 => exact HC0_3.out); rintro e w29 ⟨v584, v587, rfl, ho0, ho1, hb⟩; refine ⟨_, rfl, ?_⟩; have HO585 := am (Kd.R_lower ho0 (below_size (sbw))); have HO588 := am (Kd.R_lower ho1 (below_size (sbw))); replace BK581 := bb BK581 hb; replace HB := bsw hb; (try clear hb); (try clear ho0); (try clear ho1)))
 first
 | have _ := A7
   go_ret2
   exact ⟨se, sbw⟩
 | go_ret2
   exact ⟨se, sbw⟩
   ) : P := h
theorem impl_nextIn.calls (a0_0 : Int) (a0_1 : Int) (a0_2 : Int) (A0_3 : Option Addr) (c0_3 : Nat) (l0_3 : List (S76)) (a1 : Int) (a2 : Int) (a3 : Int) (r1 : Int) (r2 : Bool) (w : World) (hr0_3 : Kd.C k76 w A0_3 l0_3.length l0_3) (hc0_3 : l0_3.length ≤ c0_3) (h : impl_nextIn.f a0_0 a0_1 a0_2 l0_3 a1 a2 a3 = some (r1, r2)) :
    Calls Tryz.prog 106 #[.agg #[.int .i64 a0_0, .int .i64 a0_1, .int .i64 a0_2, .slice A0_3 l0_3.length c0_3], .int .i64 a1, .int .i64 a2, .int .i64 a3] w fun e w' => e = .returned (.tuple #[.int .i64 r1, .bool r2]) ∧ Below w.heap.size w w' := by
 have hu32 := Tryz.underlying32
 have hu50 := Tryz.underlying50
 have HR0_3 := am hr0_3
 have HC0_3 := am hc0_3
 clear hr0_3 hc0_3
 have HB := am (Below.refl w.heap.size w)
 have H := h; unfold impl_nextIn.f at H
 clear h
 obtain ⟨⟨t582, t583, t586, t589⟩, A5, H⟩ := bnd H
 try dsimp only at H
 obtain rfl | rfl := tt t589
 ·replace H := ip H
  obtain ⟨t591, A7, H⟩ := bnd H
  obtain rfl | rfl := tt t591
  ·replace H := ip H
   obtain ⟨c9b0, H⟩ := id_ H
   obtain ⟨c10b0, H⟩ := id_ H
   simp only [Option.some.injEq, Prod.mk.injEq] at H
   obtain ⟨rfl, rfl⟩ := H
   exact e15_3
  ·replace H := im H
   simp only [Option.some.injEq, Prod.mk.injEq] at H
   obtain ⟨rfl, rfl⟩ := H
   exact e15_3
 ·replace H := im H
  simp only [Option.some.injEq, Prod.mk.injEq] at H
  obtain ⟨rfl, rfl⟩ := H
  exact e15_3
def impl_isSkewed.f (a0_0 : Int) (a0_1 : Int) (a0_2 : Int) (l0_3 : List (S76)) (a1 : Int) : Option (Bool) := (impl_InRange.f a0_2 0 5).bind fun t594 => (if t594 = true then ((impl_InRange.f a1 0 1000).bind fun t595 => (some t595)) else (some false))
theorem e15_4 {P : Prop} (h : P := by
 obtain rfl := Option.some.inj H
 go_enter Tryz.func107, Tryz.ntmps107
 go_wp2_with (first | ((with_reducible refine gd 2 rfl ?_); refine bx 2 #[.int .i64 a0_0, .int .i64 a0_1, .int .i64 a0_2, .slice A0_3 l0_3.length c0_3] 32 ?_; intro gb593 hg w6 hbox hb; have GW593 := bz w hg; have GE593 := bz w hg; replace HB := bs hb; have BK593 := am hbox; clear hb hbox hg; obtain ⟨_, _, _, _, _, _, _, _⟩ := cc4 BK593) | (have _ := A5; (with_reducible refine gc 45 rfl ?_); refine gL (some 7) Tryz.func45 #[.int .i64 a0_2, .int .i64 0, .int .i64 5] ?_; (with_reducible refine (impl_InRange.calls a0_2 0 5 true _ A3.out).mono ?_); rintro e w' ⟨rfl, ⟨nd, rfl⟩⟩; refine ⟨_, rfl, ?_⟩) | (have _ := A5; go_at_call 45; (with_reducible refine (impl_InRange.calls a1 0 1000 t595 _ A5.out).mono ?_); rintro e w' ⟨rfl, ⟨nd, rfl⟩⟩) | ((with_reducible refine gc 45 rfl ?_); refine gL (some 7) Tryz.func45 #[.int .i64 a0_2, .int .i64 0, .int .i64 5] ?_; (with_reducible refine (impl_InRange.calls a0_2 0 5 false _ A3.out).mono ?_); rintro e w' ⟨rfl, ⟨nd, rfl⟩⟩; refine ⟨_, rfl, ?_⟩))
 first
 | have _ := A5
   go_ret
   exact ⟨se, sbw⟩
 | go_ret
   exact ⟨se, sbw⟩
   ) : P := h
theorem impl_isSkewed.calls (a0_0 : Int) (a0_1 : Int) (a0_2 : Int) (A0_3 : Option Addr) (c0_3 : Nat) (l0_3 : List (S76)) (a1 : Int) (r : Bool) (w : World) (hr0_3 : Kd.C k76 w A0_3 l0_3.length l0_3) (hc0_3 : l0_3.length ≤ c0_3) (h : impl_isSkewed.f a0_0 a0_1 a0_2 l0_3 a1 = some r) :
    Calls Tryz.prog 107 #[.agg #[.int .i64 a0_0, .int .i64 a0_1, .int .i64 a0_2, .slice A0_3 l0_3.length c0_3], .int .i64 a1] w fun e w' => e = .returned (.bool r) ∧ Below w.heap.size w w' := by
 have hu32 := Tryz.underlying32
 have HR0_3 := am hr0_3
 have HC0_3 := am hc0_3
 clear hr0_3 hc0_3
 have HB := am (Below.refl w.heap.size w)
 have H := h; unfold impl_isSkewed.f at H
 clear h
 obtain ⟨t594, A3, H⟩ := bnd H
 obtain rfl | rfl := tt t594
 ·replace H := ip H
  obtain ⟨t595, A5, H⟩ := bnd H
  exact e15_4
 ·replace H := im H
  exact e15_4
end Go.Proofs.YthnlkgbhohchoaaGreat.QFnExactRepairedAt
