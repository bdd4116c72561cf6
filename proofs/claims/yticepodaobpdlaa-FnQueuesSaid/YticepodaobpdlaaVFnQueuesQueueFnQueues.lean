/- A queue's packets in order, counted, found and drawn. Conditions: none. -/
import Derived.Test.YticepodaobpdlaaVFnQueuesTakeFnQueues
import Derived.Test.YticepodaobpdlaaVFnQueuesDrawFnQueues
namespace Go.Proofs.Yticepodaobpdlaa.fnQueues
open Go.RowKit Go.Proofs.YticepodaobpdlaaW.PrintWords Go.Proofs.YticepodaobpdlaaW.PrintMore Go.Proofs.Yticepodaobpdlaa.QFnQueues Go.Proofs.Yticepodaobpdlaa.Open Go.Proofs.Yticepodaobpdlaa.Kit
/-- The indices of the packets of the first class (or of the others) from i on. -/
def ixs (b : Bool) : List S28 → Nat → List Int
  | [], _ => []
  | x :: xs, i => if decide (x.f5 = 1) = b then (i : Int) :: ixs b xs (i + 1) else ixs b xs (i + 1)
theorem ixs_len (b : Bool) : ∀ (l : List S28) (i : Nat), (ixs b l i).length ≤ l.length
  | [], _ => Nat.le_refl _
  | x :: xs, i => by
    unfold ixs
    have := ixs_len b xs (i + 1)
    split <;> simp only [List.length_cons] <;> omega
theorem ixs_two : ∀ (l : List S28) (i : Nat), (ixs true l i).length + (ixs false l i).length = l.length
  | [], _ => rfl
  | x :: xs, i => by
    have h := ixs_two xs (i + 1)
    unfold ixs
    by_cases hx : x.f5 = 1
    · simp only [hx, decide_true, if_true, List.length_cons, Bool.true_eq_false, if_false]
      omega
    · simp only [hx, decide_false, Bool.false_eq_true, if_false, List.length_cons, if_true]
      omega
def orderL (l : List S28) : List Int := ixs true l 0 ++ ixs false l 0
theorem orderL_len (l : List S28) : (orderL l).length = l.length := by
  unfold orderL
  rw [List.length_append, ixs_two]
theorem ord2 (l : List S28) (hl : l.length ≤ 1048576) : Ev (fun k => impl_OrderOf.f k l) (orderL l) := by
  have key : ∀ (d i : Nat) (u v : List Int), i + d = l.length → u.length ≤ i → v.length ≤ i → Ev (fun k => impl_OrderOf.l0 k u v l (l.length : Int) (i : Int)) ((u ++ ixs true (l.drop i) i) ++ (v ++ ixs false (l.drop i) i)) := by
    intro d
    induction d with
    | zero =>
      intro i u v hi hu hv
      refine Ev.step (fun k => by rw [impl_OrderOf.l0]) ?_
      repeat (first | (with_reducible refine Ev.ite_pos (by omega) ?_) | (with_reducible refine Ev.ite_neg (by omega) ?_))
      refine Ev.some ?_
      rw [List.drop_of_length_le (by omega)]
      simp [ixs]
    | succ d ih =>
      intro i u v hi hu hv
      refine Ev.step (fun k => by rw [impl_OrderOf.l0]) ?_
      repeat (first | (with_reducible refine Ev.ite_pos (by omega) ?_) | (with_reducible refine Ev.ite_neg (by omega) ?_))
      rw [drop_getD (by omega : i < l.length) z28, show rd_T28 l (i : Int) = l.getD i z28 from rfl, w64n (by omega)]
      rw [ixs, ixs]
      by_cases hx : (l.getD i z28).f5 = 1
      · rw [if_pos (decide_eq_true hx), if_neg (by rw [decide_eq_true hx]; decide)]
        refine Ev.ite_pos hx ?_
        repeat (first | (with_reducible refine Ev.ite_pos (by omega) ?_) | (with_reducible refine Ev.ite_neg (by omega) ?_))
        have h1 := ih (i + 1) (u ++ [(i : Int)]) v (by omega) (by simp; omega) (by omega)
        rw [List.append_assoc u] at h1
        exact h1
      · rw [if_neg (by rw [decide_eq_false hx]; decide), if_pos (decide_eq_false hx)]
        refine Ev.ite_neg hx ?_
        repeat (first | (with_reducible refine Ev.ite_pos (by omega) ?_) | (with_reducible refine Ev.ite_neg (by omega) ?_))
        have h1 := ih (i + 1) u (v ++ [(i : Int)]) (by omega) (by omega) (by simp; omega)
        rw [List.append_assoc v] at h1
        exact h1
  exact key l.length 0 [] [] (by omega) (by simp) (by simp)
def st (c : Int) (n : Int) (x : S28) : Int := if x.f5 = c then wrap64 (n + 1) else n
theorem cnt2 (l : List S28) (c : Int) (hl : l.length ≤ 1048576) : Ev (fun k => impl_CountClass.f k l c) (l.foldl (st c) 0) := by
  rw [← foldTo_all]
  have h0 := foldTo_zero (st c) 0 l
  show Ev (fun k => impl_CountClass.l0 k c 0 l (l.length : Int) 0) _
  rw [show (fun k => impl_CountClass.l0 k c 0 l (l.length : Int) 0) = (fun k => impl_CountClass.l0 k c (foldTo (st c) 0 l 0) l (l.length : Int) ((0 : Nat) : Int)) by rw [h0]; rfl]
  refine Ev.up (n := l.length) (g := fun i k => impl_CountClass.l0 k c (foldTo (st c) 0 l i) l (l.length : Int) (i : Int)) ?_ ?_
  · intro i hi ih
    rw [foldTo_succ (st c) 0 hi z28] at ih
    refine Ev.step (fun k => by rw [impl_CountClass.l0]) ?_
    repeat (first | (with_reducible refine Ev.ite_pos (by omega) ?_) | (with_reducible refine Ev.ite_neg (by omega) ?_))
    rw [w64n (by omega)]
    unfold st at ih ⊢
    by_cases h : (l.getD i z28).f5 = c
    · rw [if_pos h] at ih
      exact Ev.ite_pos h ih
    · rw [if_neg h] at ih
      exact Ev.ite_neg h ih
  · refine Ev.step (fun k => by rw [impl_CountClass.l0]) ?_
    repeat (first | (with_reducible refine Ev.ite_pos (by omega) ?_) | (with_reducible refine Ev.ite_neg (by omega) ?_))
    exact Ev.now _
theorem find1 (l : List S28) (hl : l.length ≤ 1048576) (id : Int) : Ev (fun k => spec_FindPacket.f k l id) (impl_FindPacket.go id l 0) := by
  have key : ∀ d i : Nat, i + d = l.length → Ev (fun k => spec_FindPacket.l0 k id (i : Int) l) (impl_FindPacket.go id (l.drop i) i) := by
    intro d
    induction d with
    | zero =>
      intro i hi
      refine Ev.step (fun k => by rw [spec_FindPacket.l0]) ?_
      repeat (first | (with_reducible refine Ev.ite_pos (by omega) ?_) | (with_reducible refine Ev.ite_neg (by omega) ?_))
      refine Ev.some ?_
      rw [List.drop_of_length_le (by omega), impl_FindPacket.go]
    | succ d ih =>
      intro i hi
      have h1 := ih (i + 1) (by omega)
      refine Ev.step (fun k => by rw [spec_FindPacket.l0]) ?_
      repeat (first | (with_reducible refine Ev.ite_pos (by omega) ?_) | (with_reducible refine Ev.ite_neg (by omega) ?_))
      rw [drop_getD (by omega : i < l.length) z28, show rd_T28 l (i : Int) = l.getD i z28 from rfl, w64n (by omega), impl_FindPacket.go]
      generalize l.getD i z28 = x
      by_cases hx : x.f0 = id
      · rw [if_pos (by unfold impl_FindPacket.hit; simpa using hx)]
        exact Ev.ite_pos hx (Ev.now _)
      · rw [if_neg (by unfold impl_FindPacket.hit; simpa using hx)]
        exact Ev.ite_neg hx h1
  exact key l.length 0 (by omega)
theorem find2 (l : List S28) (hl : l.length ≤ 1048576) (id : Int) : impl_FindPacket.f l id = some (impl_FindPacket.go id l 0) := by
  unfold impl_FindPacket.f
  rw [if_pos (by omega)]
/-- What isn't found is found where it is appended. -/
theorem go_append (id : Int) (x : S28) (hx : x.f0 = id) : ∀ (l : List S28) (i : Nat), ¬ impl_FindPacket.go id l i ≥ 0 → impl_FindPacket.go id (l ++ [x]) i = ((i + l.length : Nat) : Int)
  | [], i, _ => by
    rw [List.nil_append, impl_FindPacket.go, if_pos (by unfold impl_FindPacket.hit; simpa using hx)]
    simp
  | y :: ys, i, h => by
    rw [impl_FindPacket.go] at h
    rw [List.cons_append, impl_FindPacket.go]
    by_cases hy : impl_FindPacket.hit y id = true
    · rw [if_pos hy] at h
      exact absurd (by omega) h
    · rw [if_neg hy] at h ⊢
      rw [go_append id x hx ys (i + 1) h, List.length_cons]
      omega
/-- A queue behind a push, and whether the packet went in. -/
def push (l : List S28) (x : S28) : List S28 × Bool := if (l.length : Int) ≥ 12 ∨ impl_FindPacket.go x.f0 l 0 ≥ 0 then (l, false) else (l ++ [x], true)
theorem push_len (l : List S28) (x : S28) : (push l x).1.length ≤ l.length + 1 := by
  unfold push
  split
  · simp only []; omega
  · simp
theorem push1 (l : List S28) (hl : l.length ≤ 1000) (x : S28) : Ev (fun k => spec_PushPacket.f k l x.f0 x.f1 x.f2 x.f3 x.f4 x.f5) (push l x) := by
  have hc : spec_l24Copy.f l = some l := by
    unfold spec_l24Copy.f
    rw [Option.bind_some, if_pos (by rw [List.length_nil]; omega), List.nil_append]
  unfold spec_PushPacket.f
  refine Ev.bind0 hc ?_
  by_cases h1 : (l.length : Int) ≥ 12
  · have e : push l x = (l, false) := if_pos (Or.inl h1)
    rw [e]
    exact Ev.ite_pos h1 (Ev.now _)
  · refine Ev.ite_neg h1 (Ev.bind (find1 l (by omega) x.f0) ?_)
    by_cases h2 : impl_FindPacket.go x.f0 l 0 ≥ 0
    · have e : push l x = (l, false) := if_pos (Or.inr h2)
      rw [e]
      exact Ev.ite_pos h2 (Ev.now _)
    · have e : push l x = (l ++ [x], true) := if_neg (by omega)
      rw [e]
      exact Ev.ite_neg h2 (Ev.ite_pos (by omega) (Ev.now _))
theorem push2 (l : List S28) (hl : l.length ≤ 1000) (x : S28) : impl_PushPacket.f l x.f0 x.f1 x.f2 x.f3 x.f4 x.f5 = some (push l x) := by
  have hc : impl_cloneQueue.f l = some l := by
    unfold impl_cloneQueue.f impl_Packet_26.f
    rw [if_pos (by omega), Option.bind_some]
  unfold impl_PushPacket.f
  rw [hc, Option.bind_some]
  by_cases h1 : (l.length : Int) ≥ 12
  · have e : push l x = (l, false) := if_pos (Or.inl h1)
    rw [e, if_pos h1]
  · rw [if_neg h1, find2 l (by omega) x.f0, Option.bind_some]
    by_cases h2 : impl_FindPacket.go x.f0 l 0 ≥ 0
    · have e : push l x = (l, false) := if_pos (Or.inr h2)
      rw [e, if_pos h2]
    · have e : push l x = (l ++ [x], true) := if_neg (by omega)
      rw [e, if_neg h2, if_pos (by omega)]
/-! ### draws -/
theorem l24Packet_ends {b : List Int} {i : Int} (h : Int) (hc : Cur b i) : ∃ r, spec_l24Packet.f b i h = some r ∧ Cur b r.2.2.2.2.2.2.1 := by
  unfold spec_l24Packet.f
  refine Dr.below hc fun x1 i1 h1 _ _ hc1 => ?_
  refine Dr.below hc1 fun x2 i2 h2 _ _ hc2 => ?_
  refine Dr.below hc2 fun x3 i3 h3 _ _ hc3 => ?_
  refine Dr.below hc3 fun x4 i4 h4 _ _ hc4 => ?_
  refine Dr.below hc4 fun x5 i5 h5 _ _ hc5 => ?_
  refine Dr.below hc5 fun x6 i6 h6 _ _ hc6 => ?_
  exact ⟨_, rfl, hc6⟩
theorem l24Any_ends {b : List Int} {i : Int} (h : Int) (hc : Cur b i) : ∃ r, spec_l24Any.f b i h = some r ∧ Cur b r.2.2.2.2.2.2.1 := by
  unfold spec_l24Any.f
  obtain ⟨r, e, hc1⟩ := l24Packet_ends h hc
  rw [e, Option.bind_some]
  refine Dr.below hc1 fun x i2 h2 _ _ hc2 => ?_
  dsimp only
  split
  · exact Dr.oneOf hc2 (by decide) fun y i3 h3 _ hc3 => ⟨_, rfl, hc3⟩
  split
  · exact Dr.oneOf hc2 (by decide) fun y i3 h3 _ hc3 => ⟨_, rfl, hc3⟩
  split
  · exact Dr.below hc2 fun y i3 h3 _ _ hc3 => ⟨_, rfl, hc3⟩
  split
  · exact Dr.oneOf hc2 (by decide) fun y i3 h3 _ hc3 => ⟨_, rfl, hc3⟩
  · exact ⟨_, rfl, hc2⟩
theorem l24Queue_l0 {b : List Int} (n : Int) (hn : n ≤ 12) : ∀ (d : Nat) (j i h : Int) (l : List S28), 0 ≤ j → (n - j).toNat = d → Cur b i → l.length + d ≤ 1000 → ∃ L i' h', Ev (fun k => spec_l24Queue.l0 k n j b i h l) (L, i', h') ∧ L.length ≤ 1000 ∧ Cur b i' := by
  intro d
  induction d with
  | zero =>
    intro j i h l h0 hd hc hl
    refine ⟨l, i, h, ?_, by omega, hc⟩
    refine Ev.step (fun k => by rw [spec_l24Queue.l0]) ?_
    exact Ev.ite_neg (by omega) (Ev.now _)
  | succ d ih =>
    intro j i h l h0 hd hc hl
    obtain ⟨r, e, hc1⟩ := l24Packet_ends h hc
    have hp := push1 l (by omega) ⟨wrap64 (20 + j), r.2.1, r.2.2.1, r.2.2.2.1, r.2.2.2.2.1, r.2.2.2.2.2.1⟩
    have hpl := push_len l ⟨wrap64 (20 + j), r.2.1, r.2.2.1, r.2.2.2.1, r.2.2.2.2.1, r.2.2.2.2.2.1⟩
    obtain ⟨L, i', h', he, hL, hc'⟩ := ih (j + 1) r.2.2.2.2.2.2.1 r.2.2.2.2.2.2.2 (push l ⟨wrap64 (20 + j), r.2.1, r.2.2.1, r.2.2.2.1, r.2.2.2.2.1, r.2.2.2.2.2.1⟩).1 (by omega) (by omega) hc1 (by omega)
    refine ⟨L, i', h', ?_, hL, hc'⟩
    refine Ev.step (fun k => by rw [spec_l24Queue.l0]) ?_
    refine Ev.ite_pos (by omega) (Ev.bind0 e (Ev.bind hp ?_))
    rw [w64 (x := j + 1) (by omega) (by omega)]
    exact he
theorem l24Queue_ends {b : List Int} {i : Int} (h : Int) (hc : Cur b i) : ∃ L i' h', Ev (fun k => spec_l24Queue.f k b i h) (L, i', h') ∧ L.length ≤ 1000 ∧ Cur b i' := by
  unfold spec_l24Queue.f
  obtain ⟨x, i1, h1, e1, hx0, hx1, hc1⟩ := below_ends h 6 hc
  have hx := hx1 (by omega)
  obtain ⟨y, e2, hc2⟩ := Dr.once (P := fun r : Bool × Int × Int => Cur b r.2.1) (f := some) (n := 8) (h := h1) hc1 (fun x i h hc => ⟨_, rfl, hc⟩)
  rw [Option.bind_fun_some] at e2
  cases hy : y.1 with
  | true =>
    obtain ⟨L, i', h', he, hL, hc'⟩ := l24Queue_l0 (b := b) 12 (by omega) 12 0 y.2.1 y.2.2 [] (by omega) (by omega) hc2 (by simp)
    refine ⟨L, i', h', Ev.bind0 e1 (Ev.bind0 e2 (Ev.ite_pos hy ?_)), hL, hc'⟩
    refine Ev.step (fun k => by rw [spec_l24Queue.j0]) ?_
    exact he
  | false =>
    obtain ⟨L, i', h', he, hL, hc'⟩ := l24Queue_l0 (b := b) x (by omega) x.toNat 0 y.2.1 y.2.2 [] (by omega) (by omega) hc2 (by simp; omega)
    refine ⟨L, i', h', Ev.bind0 e1 (Ev.bind0 e2 (Ev.ite_neg (by rw [hy]; simp) ?_)), hL, hc'⟩
    refine Ev.step (fun k => by rw [spec_l24Queue.j0]) ?_
    exact he
theorem drawPush_ends (b : List Int) (hb : b.length ≤ 1048576) : ∃ (L : List S28) (x : S28), Ev (fun k => spec_DrawPushPacket.f k b) (L, x.f0, x.f1, x.f2, x.f3, x.f4, x.f5) ∧ L.length ≤ 1000 := by
  obtain ⟨h, hn⟩ := l1New_ends b hb
  obtain ⟨L, i2, h2, e2, hL, hc2⟩ := l24Queue_ends h (cur0 hb)
  obtain ⟨r, e3, hc3⟩ := l24Any_ends h2 hc2
  obtain ⟨y, e4, hc4⟩ := Dr.once (P := fun r' : Bool × Int × Int => Cur b r'.2.1) (f := some) (n := 4) (h := r.2.2.2.2.2.2.2) hc3 (fun x i h hc => ⟨_, rfl, hc⟩)
  rw [Option.bind_fun_some] at e4
  unfold spec_DrawPushPacket.f
  cases hy : y.1 with
  | true => exact ⟨L, ⟨20, r.2.1, r.2.2.1, r.2.2.2.1, r.2.2.2.2.1, r.2.2.2.2.2.1⟩, Ev.bind hn (Ev.bind e2 (Ev.bind0 e3 (Ev.bind0 e4 (Ev.ite_pos hy (Ev.now _))))), hL⟩
  | false => exact ⟨L, ⟨r.1, r.2.1, r.2.2.1, r.2.2.2.1, r.2.2.2.2.1, r.2.2.2.2.2.1⟩, Ev.bind hn (Ev.bind e2 (Ev.bind0 e3 (Ev.bind0 e4 (Ev.ite_neg (by rw [hy]; simp) (Ev.now _))))), hL⟩
theorem drawTake_ends (b : List Int) (hb : b.length ≤ 1048576) : ∃ (L : List S28) (i : Int), Ev (fun k => spec_DrawTakePacket.f k b) (L, i) ∧ L.length ≤ 1000 := by
  obtain ⟨h, hn⟩ := l1New_ends b hb
  obtain ⟨L, i2, h2, e2, hL, hc2⟩ := l24Queue_ends h (cur0 hb)
  obtain ⟨x, i3, h3, e3, hx0, hx1, hc3⟩ := below_ends h2 8 hc2
  refine ⟨L, wrap64 (x - 1), ?_, hL⟩
  unfold spec_DrawTakePacket.f
  exact Ev.bind hn (Ev.bind e2 (Ev.bind0 e3 (Ev.now _)))
/-! ### the order -/
theorem ixs_mem (b : Bool) : ∀ (l : List S28) (i : Nat) (x : Int), x ∈ ixs b l i → ∃ j : Nat, x = ((i + j : Nat) : Int) ∧ j < l.length ∧ decide ((l.getD j z28).f5 = 1) = b
  | [], _, x, h => by simp [ixs] at h
  | y :: ys, i, x, h => by
    rw [ixs] at h
    have hrec : x ∈ ixs b ys (i + 1) → ∃ j : Nat, x = ((i + j : Nat) : Int) ∧ j < (y :: ys).length ∧ decide (((y :: ys).getD j z28).f5 = 1) = b := by
      intro h
      obtain ⟨j, h1, h2, h3⟩ := ixs_mem b ys (i + 1) x h
      exact ⟨j + 1, by omega, by rw [List.length_cons]; omega, by simpa using h3⟩
    split at h
    · rename_i hb
      rcases List.mem_cons.1 h with h | h
      · exact ⟨0, by omega, by simp, by simpa using hb⟩
      · exact hrec h
    · exact hrec h
theorem ixs_lt (b : Bool) : ∀ (l : List S28) (i : Nat), (ixs b l i).Pairwise (· < ·)
  | [], _ => by simp [ixs]
  | y :: ys, i => by
    rw [ixs]
    split
    · refine List.Pairwise.cons (fun x hx => ?_) (ixs_lt b ys (i + 1))
      obtain ⟨j, h1, _, _⟩ := ixs_mem b ys (i + 1) x hx
      omega
    · exact ixs_lt b ys (i + 1)
def cls (l : List S28) (a : Int) : Int := (l.getD a.toNat z28).f5
/-- What holds of two that are sent one behind the other. -/
def Behind (l : List S28) (a b : Int) : Prop := a ≠ b ∧ (cls l a = cls l b → a < b) ∧ (cls l b = 1 → cls l a = 1)
theorem order_in (l : List S28) : ∀ x ∈ orderL l, 0 ≤ x ∧ x < (l.length : Int) := by
  intro x hx
  rcases List.mem_append.1 hx with h | h
  · obtain ⟨j, h1, h2, _⟩ := ixs_mem true l 0 x h
    omega
  · obtain ⟨j, h1, h2, _⟩ := ixs_mem false l 0 x h
    omega
theorem ixs_cls (l : List S28) (b : Bool) (x : Int) (h : x ∈ ixs b l 0) : decide (cls l x = 1) = b := by
  obtain ⟨j, h1, h2, h3⟩ := ixs_mem b l 0 x h
  unfold cls
  rw [show x.toNat = j by omega]
  exact h3
theorem order_pair (l : List S28) : (orderL l).Pairwise (Behind l) := by
  have hB : ∀ b, (ixs b l 0).Pairwise (Behind l) := by
    intro b
    refine List.Pairwise.imp_of_mem ?_ (ixs_lt b l 0)
    intro x y hx hy hlt
    have h1 := ixs_cls l b x hx
    have h2 := ixs_cls l b y hy
    refine ⟨by omega, fun _ => hlt, fun h => ?_⟩
    rw [decide_eq_true h] at h2
    rw [← h2] at h1
    exact of_decide_eq_true h1
  unfold orderL
  refine List.pairwise_append.2 ⟨hB true, hB false, fun x hx y hy => ?_⟩
  have h1 := of_decide_eq_true (ixs_cls l true x hx)
  have h2 := of_decide_eq_false (ixs_cls l false y hy)
  exact ⟨fun e => h2 (by rw [← e]; exact h1), fun e => absurd (by rw [← e]; exact h1) h2, fun e => absurd e h2⟩
/-! ### the count -/
theorem st_count (c : Int) : ∀ (l : List S28) (n : Int), 0 ≤ n → n + l.length ≤ 1048576 → l.foldl (st c) n = n + ((l.countP fun x => decide (x.f5 = c) : Nat) : Int)
  | [], n, _, _ => by simp
  | x :: xs, n, h0, h1 => by
    rw [List.length_cons] at h1
    rw [List.foldl_cons, List.countP_cons]
    unfold st
    by_cases h : x.f5 = c
    · rw [if_pos h, w64 (by omega) (by omega)]
      have := st_count c xs (n + 1) (by omega) (by omega)
      unfold st at this
      rw [this, if_pos (by simpa using h)]
      omega
    · rw [if_neg h]
      have := st_count c xs n h0 (by omega)
      unfold st at this
      rw [this, if_neg (by simpa using h)]
      omega
theorem count_erase (p : S28 → Bool) (z : S28) : ∀ (l : List S28) (i : Nat), i < l.length → p (l.getD i z) = true → (l.eraseIdx i).countP p + 1 = l.countP p
  | [], _, h, _ => by simp at h
  | x :: xs, 0, _, hp => by
    rw [List.eraseIdx_cons_zero, List.countP_cons, if_pos (by simpa using hp)]
  | x :: xs, i + 1, h, hp => by
    rw [List.length_cons] at h
    have := count_erase p z xs i (by omega) (by simpa using hp)
    rw [List.eraseIdx_cons_succ, List.countP_cons, List.countP_cons]
    omega
end Go.Proofs.Yticepodaobpdlaa.fnQueues
