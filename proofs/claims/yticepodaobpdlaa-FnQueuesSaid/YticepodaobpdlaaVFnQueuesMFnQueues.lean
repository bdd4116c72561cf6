/- FnQueues: packets are sent with the guaranteed ones first, and each class in the order in which it came. Conditions: none. (tight). -/
import Derived.Test.YticepodaobpdlaaVFnQueuesRowFnQueues
import Derived.Test.YticepodaobpdlaaVFnQueuesQueueFnQueues
namespace Go.Proofs.Yticepodaobpdlaa.fnQueues
open Go.RowKit Go.Proofs.YticepodaobpdlaaW.PrintWords Go.Proofs.YticepodaobpdlaaW.PrintMore Go.Proofs.Yticepodaobpdlaa.QFnQueues Go.Proofs.Yticepodaobpdlaa.Open Go.Proofs.Yticepodaobpdlaa.Kit
theorem contains_no (L : List Int) (hL : L.length ≤ 1048576) (x : Int) (h : ∀ y ∈ L, y ≠ x) : Ev (fun k => laws_contains.f k L x) false := by
 have key : ∀ d i : Nat, i + d = L.length → Ev (fun k => laws_contains.l0 k L x (i : Int)) false := by
  intro d
  induction d with
  | zero =>
   intro i hi
   refine Ev.step (fun k => by rw [laws_contains.l0]) ?_
   exact Ev.ite_neg (by omega) (Ev.now _)
  | succ d ih =>
   intro i hi
   refine Ev.step (fun k => by rw [laws_contains.l0]) ?_
   refine Ev.ite_pos (by omega) (Ev.ite_pos (by omega) (Ev.ite_neg ?_ ?_))
   ·rw [rd_nat]
    exact h _ (getD_mem (by omega) 0)
   ·rw [w64n (by omega)]
    exact ih (i + 1) (by omega)
 exact key L.length 0 (by omega)
theorem taken (code : List Int) (hcode : code.length ≤ 1048576) (n m : Nat) (hnm : n = m) : Ev (fun k => (spec_DrawTakePacket.f k code).bind fun bt348 => ((impl_TakePacket.f bt348.1 bt348.2).bind fun bt353 => (if bt353.2.2.2.2.2.2.2 = true then (if (bt353.1.length : Int) = (wrap64 ((bt348.1.length : Int) - 1)) then (if 0 ≤ bt348.2 then (if bt348.2 < (bt348.1.length : Int) then (if (!(bt353.2.1 == ((rd_T28 bt348.1 bt348.2).f0)) || (!(bt353.2.2.1 == ((rd_T28 bt348.1 bt348.2).f1)) || (!(bt353.2.2.2.1 == ((rd_T28 bt348.1 bt348.2).f2)) || (!(bt353.2.2.2.2.1 == ((rd_T28 bt348.1 bt348.2).f3)) || (!(bt353.2.2.2.2.2.1 == ((rd_T28 bt348.1 bt348.2).f4)) || (!(bt353.2.2.2.2.2.2.1 == ((rd_T28 bt348.1 bt348.2).f5)))))))) = true then (some false) else ((impl_CountClass.f k bt353.1 bt353.2.2.2.2.2.2.1).bind fun t366 => ((impl_CountClass.f k bt348.1 bt353.2.2.2.2.2.2.1).bind fun t367 => (if t366 = (wrap64 (t367 - 1)) then (some ((n : Int) == (m : Int))) else (some false))))) else (none)) else (none)) else (some false)) else (some ((n : Int) == (m : Int)))))) true := by
 obtain ⟨L, i, hd, hL⟩ := drawTake_ends code hcode
 have hend : Ev (fun _ => some ((n : Int) == (m : Int))) true := Ev.some (by rw [hnm]; simp)
 refine Ev.bind hd (Ev.bind0 (take2 L (by omega) i) ?_)
 by_cases h : okI L i
 ·have h' := h
  unfold okI at h'
  have e1 : tkL L i = L.eraseIdx i.toNat := if_pos h
  have e2 : tkP L i = rd_T28 L i := if_pos h
  have hel : (L.eraseIdx i.toNat).length = L.length - 1 := List.length_eraseIdx_of_lt (by omega)
  have c1 := cnt2 (L.eraseIdx i.toNat) (rd_T28 L i).f5 (by omega)
  have c2 := cnt2 L (rd_T28 L i).f5 (by omega)
  have hce := count_erase (fun x => decide (x.f5 = (rd_T28 L i).f5)) z28 L i.toNat (by omega) (by simp [rd_T28])
  rw [st_count _ _ 0 (by omega) (by omega)] at c1 c2
  refine Ev.ite_pos (decide_eq_true h) ?_
  dsimp only
  rw [e1, e2]
  refine Ev.ite_pos ?_ (Ev.ite_pos h'.1 (Ev.ite_pos h'.2 (Ev.ite_neg (by simp) (Ev.bind c1 (Ev.bind c2 (Ev.ite_pos ?_ hend))))))
  ·rw [w64 (by omega) (by omega), hel]
   omega
  ·have hle := List.countP_le_length (p := fun x : S28 => decide (x.f5 = (rd_T28 L i).f5)) (l := L)
   rw [w64 (by omega) (by omega)]
   omega
 ·refine Ev.ite_neg (by simpa using h) hend
theorem sent (code : List Int) (hcode : code.length ≤ 1048576) (l : List S28) (hl : l.length ≤ 1048576) : ∀ d i : Nat, i + d = (orderL l).length → Ev (fun k => laws_FnQueues.l0 k code (orderL l) (i : Int) l) true := by
 have hol := orderL_len l
 have hin := order_in l
 have hpw := List.pairwise_iff_getElem.1 (order_pair l)
 intro d
 induction d with
 | zero =>
  intro i hi
  refine Ev.step (fun k => by rw [laws_FnQueues.l0]) ?_
  refine Ev.ite_neg (by omega) ?_
  exact taken code hcode _ _ hol
 | succ d ih =>
  intro i hi
  have hi' : i < (orderL l).length := by omega
  have hn := ih (i + 1) (by omega)
  have hx := hin _ (getD_mem hi' 0)
  have hno : ∀ y ∈ (orderL l).take i, y ≠ (orderL l).getD i 0 := by
   intro y hy
   obtain ⟨j, hj, rfl⟩ := List.mem_iff_getElem.1 hy
   rw [List.length_take] at hj
   rw [List.getElem_take, getD_at hi']
   exact (hpw j i (by omega) hi' (by omega)).1
  refine Ev.step (fun k => by rw [laws_FnQueues.l0]) ?_
  refine Ev.ite_pos (by omega) (Ev.ite_pos (by omega) (Ev.ite_pos (by omega) ?_))
  rw [Int.toNat_natCast, rd_nat, w64n (by omega)]
  refine Ev.bind (contains_no _ (by rw [List.length_take]; omega) _ hno) (Ev.ite_neg (by simp) ?_)
  by_cases h0 : (i : Int) > 0
  ·have hp := hin _ (getD_mem (show i - 1 < (orderL l).length by omega) 0)
   have hb := hpw (i - 1) i (by omega) hi' (by omega)
   rw [← getD_at (show i - 1 < (orderL l).length by omega) 0, ← getD_at hi' 0] at hb
   unfold Behind cls at hb
   rw [w64 (x := (i : Int) - 1) (by omega) (by omega), show (i : Int) - 1 = ((i - 1 : Nat) : Int) by omega, rd_nat]
   refine Ev.ite_pos h0 (Ev.ite_pos (by omega) (Ev.ite_pos (by omega) (Ev.ite_pos hp.1 (Ev.ite_pos hp.2 (Ev.ite_pos hx.1 (Ev.ite_pos hx.2 ?_))))))
   unfold rd_T28
   generalize (orderL l).getD i 0 = b at *
   generalize (orderL l).getD (i - 1) 0 = a at *
   generalize l.getD a.toNat z28 = p at *
   generalize l.getD b.toNat z28 = q at *
   by_cases hs : p.f5 = q.f5
   ·refine Ev.ite_pos hs (Ev.ite_neg (by have := hb.2.1 hs; omega) ?_)
    by_cases h1 : p.f5 = 1
    ·exact Ev.ite_pos h1 hn
    ·exact Ev.ite_neg h1 (Ev.ite_neg (fun e => h1 (hb.2.2 e)) hn)
   ·refine Ev.ite_neg hs ?_
    by_cases h1 : p.f5 = 1
    ·exact Ev.ite_pos h1 hn
    ·exact Ev.ite_neg h1 (Ev.ite_neg (fun e => h1 (hb.2.2 e)) hn)
  ·exact Ev.ite_neg h0 hn
theorem pure : PureFnQueues := by
 intro code hcode
 refine Ev.rounds (r := true) ?_
 unfold laws_FnQueues.f
 refine Ev.bind0 rfl ?_
 by_cases hb : (code.length : Int) > 1048576
 ·exact Ev.ite_pos (decide_eq_true hb) (Ev.now _)
 ·refine Ev.ite_neg (by simpa using hb) ?_
  have hc : code.length ≤ 1048576 := by omega
  obtain ⟨L, x, hd, hL⟩ := drawPush_ends code hc
  have hgo : ∀ l : List S28, l.length ≤ 1048576 → Ev (fun k => laws_FnQueues.j0 k code false l) true := by
   intro l hl
   refine Ev.step (fun k => by rw [laws_FnQueues.j0]) ?_
   exact Ev.ite_neg (by simp) (Ev.bind (ord2 l hl) (sent code hc l hl _ 0 (Nat.zero_add _)))
  refine Ev.bind hd (Ev.bind0 (push2 L hL x) ?_)
  unfold push
  by_cases h : (L.length : Int) ≥ 12 ∨ impl_FindPacket.go x.f0 L 0 ≥ 0
  ·rw [if_pos h]
   refine Ev.ite_neg (by simp) ?_
   dsimp only
   rw [show ((L.length : Int) != (L.length : Int)) = false by simp]
   exact hgo L (by omega)
  ·rw [if_neg h]
   have hgf := go_append x.f0 x rfl L 0 (by omega)
   refine Ev.ite_pos rfl (Ev.ite_pos ?_ (Ev.bind0 (find2 (L ++ [x]) (by simp; omega) x.f0) (Ev.ite_pos ?_ (hgo _ (by simp; omega)))))
   ·try dsimp only
    rw [w64n (by omega)]
    simp
   ·rw [hgf]
    simp
end Go.Proofs.Yticepodaobpdlaa.fnQueues
namespace Go.Proofs.Yticepodaobpdlaa
theorem fnQueues_holds : Rows.FnQueuesSaid := fnQueues.row fnQueues.pure
end Go.Proofs.Yticepodaobpdlaa
