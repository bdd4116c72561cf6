/- Sends that are safe, in the program and in the reference. Conditions: none. -/
import Derived.Test.YtaciciobhfoglaaVFnExactSafeSendsInSp2FnExactSafeSends
import Derived.Test.YtaciciobhfoglaaVFnExactSafeSendsTickFnExactSafeSends
import Derived.Test.YtaciciobhfoglaaVFnExactSafeSendsFeasFnExactSafeSends
import Derived.Test.YtaciciobhfoglaaVFnExactSafeSendsSendsFnExactSafeSends
namespace Go.Proofs.Ytaciciobhfoglaa.fnExactSafeSends
open Go.RowKit Go.Proofs.YtaciciobhfoglaaW.PrintWords Go.Proofs.YtaciciobhfoglaaW.PrintMore Go.Proofs.Ytaciciobhfoglaa.QFnExactSafeSends Go.Proofs.Ytaciciobhfoglaa.Open Go.Proofs.Ytaciciobhfoglaa.Kit
/-- The sends of the ticks from t on. -/
noncomputable def ss (l : List S100) (c r b s g e wish : Int) : Nat → Int → Int → List Int
  | 0, _, _ => []
  | m + 1, t, v => min wish (sendsL v c r b s g (needAt l b g t e)) :: ss l c r b s g e wish m (t + 1) (tickL v c r b s g (inSp l t) (min wish (sendsL v c r b s g (needAt l b g t e))))
theorem ss_len (l : List S100) (c r b s g e wish : Int) : ∀ (m : Nat) (t v : Int), (ss l c r b s g e wish m t v).length = m
  | 0, _, _ => rfl
  | m + 1, t, v => by
    simp only [ss, List.length_cons, ss_len l c r b s g e wish m]
noncomputable def safe (l : List S100) (v c r b s g t e wish : Int) : List Int :=
  if feas l v c r b s g t e = true ∧ 0 ≤ wish ∧ wish ≤ 100 then ss l c r b s g e wish (e - t).toNat t v else []
theorem feas_in {l : List S100} {v c r b s g t e : Int} (h : feas l v c r b s g t e = true) : Bat v c r b s g ∧ 0 ≤ t ∧ e ≤ 1000 := by
  unfold feas at h
  rw [Bool.and_eq_true] at h
  exact of_decide_eq_true h.1
theorem safe_len (l : List S100) (v c r b s g t e wish : Int) : (safe l v c r b s g t e wish).length ≤ 1000 := by
  unfold safe
  by_cases h : feas l v c r b s g t e = true ∧ 0 ≤ wish ∧ wish ≤ 100
  · rw [if_pos h, ss_len]
    have := feas_in h.1
    omega
  · rw [if_neg h]
    simp
theorem min1 (a b : Int) : spec_Min.f a b = some (min a b) := minT a b
theorem safe1 (l : List S100) (hl : l.length ≤ 1048576) (v c r b s g t e wish : Int) : Ev (fun k => spec_SafeSends.f k v c r b s g l t e wish) (safe l v c r b s g t e wish) := by
  unfold spec_SafeSends.f
  refine Ev.bind0 rfl ?_
  refine Ev.bind (feas1 l hl v c r b s g t e) ?_
  have hz : Ev (fun k => spec_SafeSends.j0 k l t e wish [] true v c r b s g) [] := by
    refine Ev.step (fun k => by rw [spec_SafeSends.j0]) ?_
    exact Ev.ite_pos rfl (Ev.now _)
  unfold safe
  cases hf : feas l v c r b s g t e with
  | false =>
    rw [if_neg (by simp)]
    exact Ev.ite_neg (by simp) hz
  | true =>
    refine Ev.ite_pos rfl ?_
    refine Ev.bind0 (in1 wish 0 100) ?_
    by_cases hw : 0 ≤ wish ∧ wish ≤ 100
    · rw [if_pos ⟨rfl, hw⟩, decide_eq_true hw]
      refine Ev.step (fun k => by rw [spec_SafeSends.j0]) ?_
      refine Ev.ite_neg (by simp) ?_
      have hin := feas_in hf
      have key : ∀ (d : Nat) (t' v : Int) (acc : List Int), 0 ≤ t' → (e - t').toNat = d → acc.length + d ≤ 1000 → Ev (fun k => spec_SafeSends.l0 k l e wish acc t' v c r b s g) (acc ++ ss l c r b s g e wish d t' v) := by
        intro d
        induction d with
        | zero =>
          intro t' v acc h0 hd ha
          refine Ev.step (fun k => by rw [spec_SafeSends.l0]) ?_
          repeat (first | (with_reducible refine Ev.ite_pos (by omega) ?_) | (with_reducible refine Ev.ite_neg (by omega) ?_))
          refine Ev.some ?_
          rw [ss, List.append_nil]
        | succ d ih =>
          intro t' v acc h0 hd ha
          refine Ev.step (fun k => by rw [spec_SafeSends.l0]) ?_
          repeat (first | (with_reducible refine Ev.ite_pos (by omega) ?_) | (with_reducible refine Ev.ite_neg (by omega) ?_))
          refine Ev.bind (need1 l hl v c r s b g t' e) ?_
          refine Ev.bind (sends1 v c r b s g _) ?_
          refine Ev.bind0 (minT _ _) ?_
          repeat (first | (with_reducible refine Ev.ite_pos (by omega) ?_) | (with_reducible refine Ev.ite_neg (by omega) ?_))
          refine Ev.bind (inSpans1 l t' hl) ?_
          refine Ev.bind (tick1L v c r b s g _ _) ?_
          simp only []
          rw [w64 (x := t' + 1) (by omega) (by omega)]
          have h1 := ih (t' + 1) (tickL v c r b s g (inSp l t') (min wish (sendsL v c r b s g (needAt l b g t' e)))) (acc ++ [min wish (sendsL v c r b s g (needAt l b g t' e))]) (by omega) (by omega) (by simp; omega)
          rw [List.append_assoc] at h1
          exact h1
      exact key _ t v [] (by omega) rfl (by simp only [List.length_nil]; omega)
    · rw [if_neg (fun h => hw h.2), decide_eq_false hw]
      exact hz
theorem safe2 (l : List S100) (hl : l.length ≤ 1048576) (v c r b s g t e wish : Int) : Ev (fun k => impl_SafeSends.f k v c r b s g l t e wish) (safe l v c r b s g t e wish) := by
  unfold impl_SafeSends.f
  refine Ev.bind0 rfl ?_
  refine Ev.bind (feas2 l hl v c r b s g t e) ?_
  have hz : Ev (fun k => impl_SafeSends.j0 k l t e wish [] true v c r b s g) [] := by
    refine Ev.step (fun k => by rw [impl_SafeSends.j0]) ?_
    exact Ev.ite_pos rfl (Ev.now _)
  unfold safe
  cases hf : feas l v c r b s g t e with
  | false =>
    rw [if_neg (by simp)]
    exact Ev.ite_neg (by simp) hz
  | true =>
    refine Ev.ite_pos rfl ?_
    have hin := feas_in hf
    by_cases hte : t ≥ e
    · refine Ev.ite_pos hte ?_
      rw [show (e - t).toNat = 0 by omega, ss]
      simp only [ite_self]
      exact hz
    · refine Ev.ite_neg hte ?_
      refine Ev.bind0 (in2 wish 0 100) ?_
      by_cases hw : 0 ≤ wish ∧ wish ≤ 100
      · rw [if_pos ⟨rfl, hw⟩, decide_eq_true hw]
        have hB := hin.1
        unfold Bat at hB
        have hb : 0 ≤ b ∧ b ≤ 100 := by omega
        have hg : 0 ≤ g ∧ g ≤ 100 := by omega
        have hlen : (needsOf l b g t e).length = (e - t).toNat + 1 := by
          unfold needsOf
          rw [if_pos ⟨hb, hg, by omega, by omega, by omega⟩]
          simp [ndl]
        have hget : ∀ j, j ≤ (e - t).toNat → (needsOf l b g t e).getD j 0 = nd l b g e ((e - t).toNat - j) := by
          intro j hj
          unfold needsOf
          rw [if_pos ⟨hb, hg, by omega, by omega, by omega⟩]
          unfold ndl
          rw [map_range_getD _ (by omega), if_neg (by omega)]
        refine Ev.step (fun k => by rw [impl_SafeSends.j0]) ?_
        refine Ev.ite_neg (by simp) ?_
        refine Ev.bind (needs2 l hl v c r s b g t e) ?_
        have key : ∀ (d j : Nat) (v : Int) (acc : List Int), j + d = (e - t).toNat → acc.length + d ≤ 1000 → Ev (fun k => impl_SafeSends.l0 k l t e wish acc (needsOf l b g t e) (t + (j : Int)) v c r b s g) (acc ++ ss l c r b s g e wish d (t + (j : Int)) v) := by
          intro d
          induction d with
          | zero =>
            intro j v acc hd ha
            refine Ev.step (fun k => by rw [impl_SafeSends.l0]) ?_
            repeat (first | (with_reducible refine Ev.ite_pos (by omega) ?_) | (with_reducible refine Ev.ite_neg (by omega) ?_))
            refine Ev.some ?_
            rw [ss, List.append_nil]
          | succ d ih =>
            intro j v acc hd ha
            have hix : wrap64 (t + (j : Int) - t) = (j : Int) := by rw [w64 (by omega) (by omega)]; omega
            have hnd : needAt l b g (t + (j : Int)) e = nd l b g e ((e - t).toNat - j) := by
              rw [needAt_in hb hg (by omega) (by omega), show (e - (t + (j : Int))).toNat = (e - t).toNat - j by omega]
            refine Ev.step (fun k => by rw [impl_SafeSends.l0]) ?_
            rw [hix]
            repeat (first | (with_reducible refine Ev.ite_pos (by omega) ?_) | (with_reducible refine Ev.ite_neg (by omega) ?_))
            rw [rd_nat, hget j (by omega), ← hnd]
            refine Ev.bind (sends2 v c r b s g _) ?_
            refine Ev.bind (inSpans2 l _ hl) ?_
            rw [mn_def]
            refine Ev.bind0 (tick2L v c r b s g _ _) ?_
            repeat (first | (with_reducible refine Ev.ite_pos (by omega) ?_) | (with_reducible refine Ev.ite_neg (by omega) ?_))
            simp only []
            rw [w64 (x := t + (j : Int) + 1) (by omega) (by omega)]
            have h1 := ih (j + 1) (tickL v c r b s g (inSp l (t + (j : Int))) (min wish (sendsL v c r b s g (needAt l b g (t + (j : Int)) e)))) (acc ++ [min wish (sendsL v c r b s g (needAt l b g (t + (j : Int)) e))]) (by omega) (by simp; omega)
            rw [List.append_assoc, show t + ((j + 1 : Nat) : Int) = t + (j : Int) + 1 by omega] at h1
            exact h1
        have h := key (e - t).toNat 0 v [] (by omega) (by simp only [List.length_nil]; omega)
        rw [show t + ((0 : Nat) : Int) = t by omega] at h
        exact h
      · rw [if_neg (fun h => hw h.2), decide_eq_false hw]
        exact hz
end Go.Proofs.Ytaciciobhfoglaa.fnExactSafeSends
