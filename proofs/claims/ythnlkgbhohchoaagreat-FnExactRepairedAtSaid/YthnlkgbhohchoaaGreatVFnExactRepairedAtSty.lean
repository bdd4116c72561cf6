/- slices.SortStableFunc at ints under the literal of AltsOf: a stable sort by the entries of a table. Conditions: none. -/
import Derived.Test.YthnlkgbhohchoaaGreatVFnExactRepairedAtWMore
import Derived.Test.YthnlkgbhohchoaaGreatVFnExactRepairedAtStx
namespace Go.Proofs.YthnlkgbhohchoaaGreat.Stw
open Go.Proofs Go.Shelf Go.RowKit Go.Lib Go.Sort Stb Go.Proofs.YthnlkgbhohchoaaGreatW.PrintWords Go.Proofs.YthnlkgbhohchoaaGreatW.PrintMore
set_option linter.unusedVariables false
set_option maxHeartbeats 8000000
set_option maxRecDepth 100000
/-- A row of ints of the call's own, behind a library function that wrote it and left the first m. -/
theorem row_put {w : World} {base g n c m q : Nat} {xs ys : List Int} {ok : Nat → Prop} (HO : Kd.R (Kd.int .i64) 3 w base ok (.slice (some ⟨g, 0, none⟩) n c) xs) (hy : ys.length = n) (hm : m ≤ n) (os : Array Obj) :
    Kd.R (Kd.int .i64) 3 (Go.Sort.grow (Go.Sort.putRow (Value.int .i64) (Go.Sort.ahead w q) g 0 ys.toArray) os) base ok (.slice (some ⟨g, 0, none⟩) m c) (ys.take m) ∧ w.grownBy (Go.Sort.grow (Go.Sort.putRow (Value.int .i64) (Go.Sort.ahead w q) g 0 ys.toArray) os) (some g) := by
  obtain ⟨hn, hnc, _⟩ := Kd.R_reads' HO
  obtain ⟨hok, inner, hown, hr⟩ := HO
  rcases hown.2 with ⟨hv', _⟩ | ⟨g', cap', cur, hv', hb, hh, hlc, hcm, hcs, htake⟩
  · cases hv'
  injection hv' with ha _ hc
  injection ha with ha
  injection ha with hg
  subst hg; subst hc
  have hcs' : cur.size = c := by rw [hcs]; exact Nat.mul_one c
  have hsz : (Go.Sort.putRow (Value.int .i64) (Go.Sort.ahead w q) g 0 ys.toArray).heap.size = w.heap.size := by
    simp [Go.Sort.putRow, Go.Sort.mapBlock, Go.Sort.ahead]
  have hg0 : g < w.heap.size := blk_lt hh
  have hB : (Go.Sort.grow (Go.Sort.putRow (Value.int .i64) (Go.Sort.ahead w q) g 0 ys.toArray) os).heap[g]? = some (.cells (Go.Sort.putCells (Value.int .i64) 0 ys.toArray cur) 3 (0, 0)) := by
    rw [Go.Sort.heap_grow_old _ _ (by omega)]
    show (w.heap.modify g (Go.Sort.onCells _))[g]? = _
    rw [Array.getElem?_modify, if_pos rfl, hh]
    rfl
  have hfar : ∀ k, k < w.heap.size → k ≠ g → (Go.Sort.grow (Go.Sort.putRow (Value.int .i64) (Go.Sort.ahead w q) g 0 ys.toArray) os).heap[k]? = w.heap[k]? := by
    intro k hk hne
    rw [Go.Sort.heap_grow_old _ _ (by omega)]
    show (w.heap.modify g (Go.Sort.onCells _))[k]? = _
    rw [Array.getElem?_modify, if_neg (fun e => hne e.symm)]
  have htl : (ys.take m).length = m := by rw [List.length_take]; omega
  refine ⟨⟨hok, (ys.take m).map (Value.int .i64), ⟨by rw [List.length_map]; exact (Nat.mul_one _).symm, .inr ⟨g, c, _, by rw [htl], hb, hB, by omega, hcm, ?_, ?_⟩⟩, ⟨by rw [List.length_map]; exact (Nat.mul_one _).symm, ?_⟩⟩, ⟨rfl, rfl, rfl, ?_, ?_⟩⟩
  · show (Go.Sort.putCells (Value.int .i64) 0 ys.toArray cur).size = c * 1
    simp [Go.Sort.putCells, hcs']
  · rw [htl]
    apply List.ext_getElem?
    intro i
    show ((Go.Sort.putCells (Value.int .i64) 0 ys.toArray cur).toList.take (m * 1))[i]? = _
    rw [Nat.mul_one, List.getElem?_take, List.getElem?_map, List.getElem?_take]
    by_cases hi : i < m
    · have h1 : i < cur.size := by omega
      have h2 : i < ys.length := by omega
      rw [if_pos hi, if_pos hi, Array.getElem?_toList]
      simp [Go.Sort.putCells, h1, h2]
    · rw [if_neg hi, if_neg hi]
      rfl
  · intro j p hp
    show ((((ys.take m).map (Value.int .i64)).drop (j * 1)).take 1) = [Value.int .i64 p]
    rw [Nat.mul_one]
    have h1 : ((ys.take m).map (Value.int .i64))[j]? = some (.int .i64 p) := by rw [List.getElem?_map, hp]; rfl
    obtain ⟨h2, h3⟩ := List.getElem?_eq_some_iff.1 h1
    rw [List.drop_eq_getElem_cons h2, h3]
    rfl
  · simp [Go.Sort.grow, hsz]
  · intro k hk hne
    exact hfar k hk (fun e => hne (by rw [e]))
theorem row_holds {w : World} {base g n c : Nat} {xs : List Int} {ok : Nat → Prop} (HO : Kd.R (Kd.int .i64) 3 w base ok (.slice (some ⟨g, 0, none⟩) n c) xs) : Go.Sort.Holds (Value.int .i64) w g 0 xs.toArray ∧ g < w.heap.size := by
  obtain ⟨hn, hnc, hC⟩ := Kd.R_reads' HO
  obtain ⟨hok, inner, hown, hr⟩ := HO
  rcases hown.2 with ⟨hv', _⟩ | ⟨g', cap', cur, hv', hb, hh, hlc, hcm, hcs, htake⟩
  · cases hv'
  injection hv' with ha _ hc
  injection ha with ha
  injection ha with hg
  subst hg; subst hc
  refine ⟨fun j hj => ⟨?_, blk_frozen hh _⟩, blk_lt hh⟩
  have hj' : j < xs.length := by simpa using hj
  obtain ⟨ad, e, h⟩ := Kd.at_int hC (j : Int) (by omega) (by omega)
  injection e with e
  subst e
  rw [Int.toNat_natCast, add_at] at h
  simpa [Go.Proofs.YthnlkgbhohchoaaGreatW.PrintWords.rd, hj'] using h
def cmp3 (x y : Int) : Int := if x < y then -1 else if y < x then 1 else 0
theorem cmp3_lt (x y : Int) : cmp3 x y < 0 ↔ x < y := by
  unfold cmp3
  split
  · omega
  · split <;> omega
theorem isNaN (x : Int) (w : World) : Calls Tryz.prog 92 #[.int .i64 x] w fun e w' => e = .returned (.bool false) ∧ w' = w := by
  have hx : (x != x) = false := by simp
  go_enter Tryz.func92, Tryz.ntmps92
  go_wp2
  go_ret
  exact ⟨rfl, rfl⟩
theorem compare (x y : Int) (w : World) : Calls Tryz.prog 58 #[.int .i64 x, .int .i64 y] w fun e w' => e = .returned (.int .i64 (cmp3 x y)) ∧ w' = w := by
  have h1 := isNaN x w
  have h2 := isNaN y w
  unfold cmp3
  by_cases c1 : x < y
  · have hd : decide (x < y) = true := decide_eq_true c1
    rw [if_pos c1]
    go_enter Tryz.func58, Tryz.ntmps58
    go_wp2_with (go_at_call 92; first | (refine h1.mono ?_; rintro e w1 ⟨rfl, rfl⟩) | (refine h2.mono ?_; rintro e w1 ⟨rfl, rfl⟩))
    go_ret
    exact ⟨rfl, rfl⟩
  · have hd : decide (x < y) = false := decide_eq_false c1
    rw [if_neg c1]
    by_cases c2 : y < x
    · have hd2 : decide (x > y) = true := decide_eq_true c2
      rw [if_pos c2]
      go_enter Tryz.func58, Tryz.ntmps58
      go_wp2_with (go_at_call 92; first | (refine h1.mono ?_; rintro e w1 ⟨rfl, rfl⟩) | (refine h2.mono ?_; rintro e w1 ⟨rfl, rfl⟩))
      go_ret
      exact ⟨rfl, rfl⟩
    · have hd2 : decide (x > y) = false := decide_eq_false c2
      rw [if_neg c2]
      go_enter Tryz.func58, Tryz.ntmps58
      go_wp2_with (go_at_call 92; first | (refine h1.mono ?_; rintro e w1 ⟨rfl, rfl⟩) | (refine h2.mono ?_; rintro e w1 ⟨rfl, rfl⟩))
      go_ret
      exact ⟨rfl, rfl⟩
/-- The literal of AltsOf: the two places' entries compared. -/
theorem lit (a b : Int) (gb : Nat) (ad : Addr) (n c : Nat) (x y : Int) (w : World) (hb : w.cell? ⟨gb, 1, none⟩ = some (.slice (some ad) n c)) (ha0 : 0 ≤ a) (ha1 : a < (n : Int)) (hb0 : 0 ≤ b) (hb1 : b < (n : Int))
    (hx : w.cell? (ad.add a.toNat) = some (.int .i64 x)) (hy : w.cell? (ad.add b.toNat) = some (.int .i64 y)) :
    Calls Tryz.prog 57 #[.int .i64 a, .int .i64 b, .pointer (some ⟨gb, 0, none⟩)] w fun e w' => e = .returned (.int .i64 (cmp3 x y)) ∧ ∃ q os', w' = grow (w.drewN q) os' := by
  have hu := Tryz.underlying25
  have hu2 := Tryz.underlying50
  have mixed : Tryz.prog.follows Departure.mixedOrders = true := by kernel_rfl
  have hc : ∀ m os, Calls Tryz.prog 58 #[.int .i64 x, .int .i64 y] (grow (w.drewN m) os) fun e w' => e = .returned (.int .i64 (cmp3 x y)) ∧ ∃ q os', w' = grow ((grow (w.drewN m) os).drewN q) os' := fun m os => (compare x y _).mono fun e w' ⟨h1, h2⟩ => ⟨h1, 0, #[], by rw [h2, World.drewN_zero, grow_empty]⟩
  have cell : ∀ (p : Addr) (v : Value), w.cell? p = some v → ∀ m os, (grow (w.drewN m) os).cell? p = some v := fun p v h m os => by
    rw [cell?_grow _ _ _ (by show p.block < (w.drewN m).heap.size; exact World.block_lt_of_cell? w _ h)]
    exact h
  have lb := cell _ _ hb
  have lx := cell _ _ hx
  have ly := cell _ _ hy
  have pa : (0 ≤ a) = True := eq_true ha0
  have pb : (0 ≤ b) = True := eq_true hb0
  have qa : (a < (n : Int)) = True := eq_true ha1
  have qb : (b < (n : Int)) = True := eq_true hb1
  go_enter Tryz.func57, Tryz.ntmps57
  go_wp2_with fail
  go_quiet_grown (first | (go_at_call 58; refine Calls.grown_of (hc _ _)))
  go_wp2
  go_ret
  exact ⟨rfl, _, _, rfl⟩

/-- A sort of no element. -/
theorem ins_none (A : Option Addr) (c : Nat) (fv : Value) (w : World) : Calls Tryz.prog 130 #[.slice A 0 c, .int .i64 0, .int .i64 0, fv] w fun e w' => e = .returned (.tuple #[]) ∧ w' = w := by
  go_enter Tryz.func130, Tryz.ntmps130
  go_wp2
  go_loopg [8] 0 (fun kx v8 wr => v8 = .int .i64 1 ∧ wr = w)
  case atStart => exact ⟨rfl, rfl⟩
  case round =>
    obtain ⟨rfl, rfl⟩ := hrel
    go_wp2
    go_end0
    exact ⟨rfl, rfl⟩
theorem stable_none (A : Option Addr) (c : Nat) (fv : Value) (w : World) : Calls Tryz.prog 91 #[.slice A 0 c, .int .i64 0, fv] w fun e w' => e = .returned (.tuple #[]) ∧ w' = w := by
  have h := fun W => ins_none A c fv W
  go_enter Tryz.func91, Tryz.ntmps91
  go_wp2
  go_loopg [7, 8] 0 (fun kx v7 v8 wr => v7 = .int .i64 0 ∧ v8 = .int .i64 20 ∧ Aside (wr = w))
  case atStart => exact ⟨rfl, rfl, rfl⟩
  case round =>
    obtain ⟨rfl, rfl, HW⟩ := hrel
    go_wp2_with (go_at_call 130; refine (h _).mono ?_; rintro e w1 ⟨rfl, rfl⟩)
    go_loopg [6] 0 (fun kx v6 wr => v6 = .int .i64 20 ∧ Aside (wr = w))
    case atStart => exact ⟨rfl, HW⟩
    case round =>
      clear HW
      obtain ⟨rfl, HW⟩ := hrel
      go_wp2
      go_end0
      exact ⟨rfl, HW.out⟩
theorem entry {Q : World → Prop} (A : Option Addr) (n c : Nat) (fv : Value) (w : World) (h : Calls Tryz.prog 91 #[.slice A n c, .int .i64 n, fv] w fun e w' => e = .returned (.tuple #[]) ∧ Q w') :
    Calls Tryz.prog 56 #[.slice A n c, fv] w fun e w' => e = .returned (.tuple #[]) ∧ Q w' := by
  go_enter Tryz.func56, Tryz.ntmps56
  go_wp2_with (go_at_call 91; refine h.mono ?_; rintro e w1 ⟨rfl, hQ⟩)
  go_end0
  exact ⟨rfl, hQ⟩
theorem putRow_val {w : World} {g : Nat} {p : Int → Prop} [Inhabited {x : Int // p x}] (d : Array {x : Int // p x}) :
    putRow (fun x : {x : Int // p x} => Value.int .i64 x.1) w g 0 d = putRow (Value.int .i64) w g 0 (d.toList.map (·.1)).toArray := by
  unfold putRow
  congr 1
  funext c
  unfold putCells
  congr 1
  funext k x
  by_cases h : k < d.size
  · simp [h]
  · simp [h]
theorem sortWorld_cell {α : Type} [Inhabited α] {enc : α → Value} {w : World} {g m : Nat} {dk : Array α} {os : Array Obj} {p : Addr} {v : Value} (h : w.cell? p = some v) (hne : p.block ≠ g) : (sortWorld enc w g 0 m dk os).cell? p = some v := by
  have hlt := World.block_lt_of_cell? w _ h
  unfold sortWorld
  rw [cell?_grow _ _ _ (by rw [size_putRow]; exact hlt), cell?_putRow_other enc _ g 0 _ _ (Or.inl hne)]
  exact h
def srtF (dist l0 : List Int) : Option (List Int) := if l0.length < 4611686018427387904 ∧ ∀ x ∈ l0, 0 ≤ x ∧ x < (dist.length : Int) then some (srt (fun x => rd dist x) l0) else none
theorem sortStable (gb : Nat) (t0 : Int) (A1 : Option Addr) (c1 : Nat) (dist : List Int) (v2 : Value) (P0_ : Nat → Prop) (u9000_ : Value) (l0 : List Int) (r : List Int) (w0 w : World) (hB : Below w0.heap.size w0 w)
    (hd : Kd.C (Kd.int .i64) w0 A1 dist.length dist) (hbx : w.heap[gb]? = some (.cells #[.int .i64 t0, .slice A1 dist.length c1, v2] 50 (0, 0))) (hg0 : w0.heap.size ≤ gb)
    (ho0 : Kd.R (Kd.int .i64) 3 w w0.heap.size P0_ u9000_ l0) (h : srtF dist l0 = some r) :
    Calls Tryz.prog 56 #[u9000_, .func (.func 57) #[] #[.pointer (some ⟨gb, 0, none⟩)]] w fun e w' => e = .returned (.tuple #[]) ∧ Kd.R (Kd.int .i64) 3 w' w0.heap.size (fun k_ => (P0_ k_ ∨ w.heap.size ≤ k_)) u9000_ r ∧ Below w0.heap.size w0 w' ∧ Kept w w' (fun k_ => P0_ k_) := by
  unfold srtF at h
  by_cases hm : l0.length < 4611686018427387904 ∧ ∀ x ∈ l0, 0 ≤ x ∧ x < (dist.length : Int)
  rotate_left
  · rw [if_neg hm] at h
    cases h
  rw [if_pos hm] at h
  obtain rfl := Option.some.inj h
  obtain ⟨hm1, hm2⟩ := hm
  by_cases hz : l0 = []
  · subst hz
    obtain ⟨A, c, rfl⟩ := Kd.R_slice ho0
    refine (entry A 0 c _ w (stable_none A c (.func (.func 57) #[] #[.pointer (some ⟨gb, 0, none⟩)]) w)).mono ?_
    rintro e w1 ⟨rfl, rfl⟩
    exact ⟨rfl, Kd.R_mono ho0 (fun _ h_ => Or.inl h_), hB, Kept.refl _ _⟩
  have hlen : 0 < l0.length := List.length_pos_iff.2 hz
  obtain ⟨A, c, rfl⟩ := Kd.R_slice ho0
  obtain ⟨g, cap_, ev_, _⟩ := Kd.R_form ho0 (by omega)
  injection ev_ with ea_ _ ec_
  subst ea_
  obtain ⟨hH, hgl⟩ := row_holds ho0
  have hgg : w0.heap.size ≤ g := Kd.R_base ho0 _ (by simp [Value.ownBlock])
  have hgb : gb ≠ g := fun e_ => by
    subst e_
    exact absurd rfl (Kd.R_ne ho0 hbx (by decide))
  let α := {x : Int // 0 ≤ x ∧ x < (dist.length : Int)}
  haveI : Inhabited α := ⟨⟨l0.head hz, hm2 _ (List.head_mem hz)⟩⟩
  obtain ⟨xs, hxs⟩ : ∃ xs : List α, xs.map (fun x => x.1) = l0 := ⟨l0.attach.map (fun x => ⟨x.1, hm2 x.1 x.2⟩), by rw [List.map_map]; show l0.attach.map (fun x => x.1) = l0; exact List.attach_map_subtype_val l0⟩
  have hxl : xs.length = l0.length := by rw [← hxs, List.length_map]
  have hsz : xs.toArray.size = l0.length := by simpa using hxl
  have hcell : ∀ i : Int, 0 ≤ i → i < (dist.length : Int) → ∃ ad, A1 = some ad ∧ w.cell? (ad.add i.toNat) = some (.int .i64 (rd dist i)) ∧ (ad.add i.toNat).block < w0.heap.size := fun i h0 h1 => by
    obtain ⟨ad, e, h⟩ := Kd.at_int hd i h0 h1
    exact ⟨ad, e, (hB.cell (World.block_lt_of_cell? w0 _ h)).trans h, World.block_lt_of_cell? w0 _ h⟩
  have hcmp : CmpLays1 Tryz.prog 57 #[.pointer (some ⟨gb, 0, none⟩)] (fun x : α => Value.int .i64 x.1) (fun x y => cmp3 (rd dist x.1) (rd dist y.1)) g 0 xs.toArray.size w := by
    intro m os dk hs x y
    obtain ⟨ad, e1, h1, n1⟩ := hcell x.1 x.2.1 x.2.2
    obtain ⟨ad2, e2, h2, n2⟩ := hcell y.1 y.2.1 y.2.2
    subst e1
    injection e2 with e2
    subst e2
    exact lit x.1 y.1 gb ad dist.length c1 _ _ _ (sortWorld_cell ((blk_cell hbx 1).trans rfl) hgb) x.2.1 x.2.2 y.2.1 y.2.2 (sortWorld_cell h1 (by omega)) (sortWorld_cell h2 (by omega))
  have hR : Row1 (fun x : α => Value.int .i64 x.1) w g 0 xs.toArray := ⟨fun x => rfl, fun j hj => by
    have hj' : j < l0.length := by omega
    have := hH j (by simpa using hj')
    have e : xs.toArray[j]!.1 = l0.toArray[j]! := by
      have hjx : j < xs.length := by omega
      subst hxs
      simp [hjx]
    refine ⟨?_, this.2⟩
    show _ = some (Value.int .i64 xs.toArray[j]!.1)
    rw [e]; exact this.1, hgl⟩
  have hst := stable (fun x : α => Value.int .i64 x.1) (fun x y => cmp3 (rd dist x.1) (rd dist y.1)) (fun x => rd dist x.1) (fun x y => cmp3_lt _ _) 57 #[.pointer (some ⟨gb, 0, none⟩)] g 0 c xs.toArray w (fun args w => rfl) hcmp hR xs.toArray w rfl (SW.start hR.hH) (by omega)
  rw [hsz] at hst
  refine (entry (some ⟨g, 0, none⟩) l0.length c _ w hst).mono ?_
  rintro e w1 ⟨rfl, d1, hS, hC, hO⟩
  obtain ⟨q, os, rfl⟩ := hS
  have hd1 : d1.toList.length = xs.length := hC.len
  have hys : d1.toList = srt (fun x : α => rd dist x.1) xs := srt_uniq _ _ _ (So.pair (by rw [hd1, hxl]; exact hO)) hC.fib
  have hym : d1.toList.map (fun x => x.1) = srt (fun x => rd dist x) l0 := by rw [hys, srt_map (fun x => rd dist x) (fun x : α => rd dist x.1) (fun x => x.1) (fun _ => rfl), hxs]
  unfold sortWorld
  rw [putRow_val d1, hym]
  have hs : (srt (fun x => rd dist x) l0).length = l0.length := by rw [← hym, List.length_map, hd1, hxl]
  have h1 := row_put (q := q) ho0 hs (Nat.le_refl _) os
  rw [List.take_of_length_le (by omega)] at h1
  have hg : P0_ g := ho0.1 g (by simp [Value.ownBlock])
  exact ⟨rfl, Kd.R_mono h1.1 (fun _ h_ => Or.inl h_), hB.grown h1.2 hB.size (fun k_ e_ => by injection e_ with e_; subst e_; exact hgg), Kept.of_grown h1.2 (Kept.refl _ _) (fun k_ e_ => by injection e_ with e_; subst e_; exact Or.inl hg)⟩
end Go.Proofs.YthnlkgbhohchoaaGreat.Stw
