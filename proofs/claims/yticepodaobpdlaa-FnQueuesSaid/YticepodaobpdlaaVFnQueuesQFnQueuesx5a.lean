/- Printed by a program of the session. Conditions: none. (squeezed). -/
import Derived.Test.YticepodaobpdlaaVFnQueuesQFnQueuesx1
import Derived.Test.YticepodaobpdlaaVFnQueuesQFnQueuesx4
namespace Go.Proofs.Yticepodaobpdlaa.QFnQueues
set_option maxHeartbeats 8000000
set_option maxRecDepth 100000
open Go.RowKit Go.Proofs.YticepodaobpdlaaW.PrintWords Go.Proofs.YticepodaobpdlaaW.PrintLast Go.Proofs.YticepodaobpdlaaW.PrintMore Go.Proofs.Yticepodaobpdlaa.Open Go.Proofs.Yticepodaobpdlaa.Sq
attribute [local go_sem] max2_int min2_int max_two min_two max_three min_three max_four min_four   -- for this text's walks alone
attribute [local go_sem] isSome_set
set_option linter.unusedVariables false
set_option linter.unusedSimpArgs false

attribute [local go_sem high] eqA28
theorem a5_23 {P : Prop} (h : P := by have := HJ5.out; have := HK2.out; omega) : P := h
theorem a5_22 {P : Prop} (h : P := by (with_reducible repeat (first | apply Kd.R_alloc | apply Kd.R_drewN | apply Kd.R_drew)); exact (Kd.R_mono (Kd.R_far (p := ⟨gb352, 0, none⟩) (Kd.R_types HO_7.out BK352.out (by decide)) (fun _ hk => hk.2) (.slice Ao96 t348.length co96)) (fun _ h_ => h_.1))) : P := h
theorem a5_21 {P : Prop} (h : P := by (with_reducible repeat (first | apply Kd.R_alloc | apply Kd.R_drewN | apply Kd.R_drew)); exact (Kd.R_mono (Kd.R_far (p := ⟨gb352, 0, none⟩) (Kd.R_types HO_324000.out BK352.out (by decide)) (fun _ hk => hk.2) (.slice Ao206 t348.length co206)) (fun _ h_ => h_.1))) : P := h
theorem a5_20 {P : Prop} (h : P := by (with_reducible repeat (first | apply Kd.R_alloc | apply Kd.R_drewN | apply Kd.R_drew)); exact (Kd.R_mono (Kd.R_far (p := ⟨gb352, 0, none⟩) (Kd.R_types HO_318000.out BK352.out (by decide)) (fun _ hk => hk.2) (.slice Ao206 t348.length co206)) (fun _ h_ => h_.1))) : P := h
theorem a5_19 {P : Prop} (h : P := by (with_reducible repeat (first | apply Kd.R_alloc | apply Kd.R_drewN | apply Kd.R_drew)); exact (Kd.R_mono (Kd.R_far (p := ⟨gb352, 0, none⟩) (Kd.R_types HO_324000.out BK352.out (by decide)) (fun _ hk => hk.2) (.slice Ao181 t348.length co181)) (fun _ h_ => h_.1))) : P := h
theorem a5_18 {P : Prop} (h : P := by (with_reducible repeat (first | apply Kd.R_alloc | apply Kd.R_drewN | apply Kd.R_drew)); exact (Kd.R_mono (Kd.R_far (p := ⟨gb352, 0, none⟩) (Kd.R_types HO_318000.out BK352.out (by decide)) (fun _ hk => hk.2) (.slice Ao181 t348.length co181)) (fun _ h_ => h_.1))) : P := h
theorem a5_17 {P : Prop} (h : P := by (with_reducible repeat (first | apply Kd.R_alloc | apply Kd.R_drewN | apply Kd.R_drew)); exact (Kd.R_mono (Kd.R_far (p := ⟨gb352, 0, none⟩) (Kd.R_types HO_324000.out BK352.out (by decide)) (fun _ hk => hk.2) (.slice Ao154 t348.length co154)) (fun _ h_ => h_.1))) : P := h
theorem a5_16 {P : Prop} (h : P := by (with_reducible repeat (first | apply Kd.R_alloc | apply Kd.R_drewN | apply Kd.R_drew)); exact (Kd.R_mono (Kd.R_far (p := ⟨gb352, 0, none⟩) (Kd.R_types HO_318000.out BK352.out (by decide)) (fun _ hk => hk.2) (.slice Ao154 t348.length co154)) (fun _ h_ => h_.1))) : P := h
theorem a5_15 {P : Prop} (h : P := by rw [Ny328.out, List.length_take]; omega) : P := h
theorem a5_14 {P : Prop} (h : P := by first | rfl | (simp [errW_none, errW_some] <;> rfl) | (simp only [← hji49]; first | rfl | (simp [errW_none, errW_some] <;> rfl)) | (simp [*, errW_none, errW_some] <;> rfl)) : P := h
theorem a5_13 {P : Prop} (h : P := by (with_reducible repeat (first | apply Kd.R_alloc | apply Kd.R_drewN | apply Kd.R_drew)); exact (Kd.R_mono (Kd.R_far (p := ⟨gb352, 0, none⟩) (Kd.R_types HO350.out BK352.out (by decide)) (fun _ hk => hk.2) (.slice Ao206 t348.length co206)) (fun _ h_ => h_.1))) : P := h
theorem a5_12 {P : Prop} (h : P := by (with_reducible repeat (first | apply Kd.R_alloc | apply Kd.R_drewN | apply Kd.R_drew)); exact (Kd.R_mono (Kd.R_far (p := ⟨gb352, 0, none⟩) (Kd.R_types HO350.out BK352.out (by decide)) (fun _ hk => hk.2) (.slice Ao181 t348.length co181)) (fun _ h_ => h_.1))) : P := h
theorem a5_11 {P : Prop} (h : P := by (with_reducible repeat (first | apply Kd.R_alloc | apply Kd.R_drewN | apply Kd.R_drew)); exact (Kd.R_mono (Kd.R_far (p := ⟨gb352, 0, none⟩) (Kd.R_types HO350.out BK352.out (by decide)) (fun _ hk => hk.2) (.slice Ao154 t348.length co154)) (fun _ h_ => h_.1))) : P := h
theorem a5_10 {P : Prop} (h : P := by (with_reducible repeat (first | apply Kd.R_alloc | apply Kd.R_drewN | apply Kd.R_drew)); exact Kd.R_mono (Kd.R_far (p := ⟨gb364, 5, none⟩) (Kd.R_far (p := ⟨gb364, 4, none⟩) (Kd.R_far (p := ⟨gb364, 3, none⟩) (Kd.R_far (p := ⟨gb364, 2, none⟩) (Kd.R_far (p := ⟨gb364, 1, none⟩) (Kd.R_far (p := ⟨gb364, 0, none⟩) (Kd.R_far (p := ⟨gb363, 0, none⟩) (Kd.R_types (Kd.R_types HO_7.out BK363.out (by decide)) BK364.out (by decide)) (fun _ hk => hk.1.2) (.slice Ao104 t353.length co104)) (fun _ hk => hk.2) (.int .i64 t356)) (fun _ hk => hk.2) (.int .i64 t357)) (fun _ hk => hk.2) (.int .i64 t358)) (fun _ hk => hk.2) (.int .i64 t359)) (fun _ hk => hk.2) (.int .i64 t360)) (fun _ hk => hk.2) (.int .i64 t361)) (fun _ hk => trivial)) : P := h
theorem a5_9 {P : Prop} (h : P := by (with_reducible repeat (first | apply Kd.R_alloc | apply Kd.R_drewN | apply Kd.R_drew)); exact (Kd.R_mono (Kd.R_far (p := ⟨gb352, 0, none⟩) (Kd.R_types HO_324000.out BK352.out (by decide)) (fun _ hk => hk.2) (.slice Ao96 t348.length co96)) (fun _ h_ => h_.1))) : P := h
theorem a5_8 {P : Prop} (h : P := by (with_reducible repeat (first | apply Kd.R_alloc | apply Kd.R_drewN | apply Kd.R_drew)); exact (Kd.R_mono (Kd.R_far (p := ⟨gb352, 0, none⟩) (Kd.R_types HO_318000.out BK352.out (by decide)) (fun _ hk => hk.2) (.slice Ao96 t348.length co96)) (fun _ h_ => h_.1))) : P := h
theorem a5_7 {P : Prop} (h : P := by (with_reducible repeat (first | apply Kd.R_alloc | apply Kd.R_drewN | apply Kd.R_drew)); exact Kd.R_mono (Kd.R_far (p := ⟨gb323, 0, none⟩) (Kd.R_types HO321.out BK323.out (by decide)) (fun _ hk => hk.2) (.slice Ao16 t319.length co16)) (fun _ hk => ⟨hk.1.1.2, hk.1.2⟩)) : P := h
theorem a5_6 {P : Prop} (h : P := by (with_reducible repeat (first | apply Kd.R_alloc | apply Kd.R_drewN | apply Kd.R_drew)); exact Kd.R_mono (Kd.R_far (p := ⟨gb323, 0, none⟩) (Kd.R_types HO310.out BK323.out (by decide)) (fun _ hk => hk.2) (.slice Ao16 t319.length co16)) (fun _ hk => ⟨hk.1.2, hk.1.1.2⟩)) : P := h
theorem a5_5 {P : Prop} (h : P := by (with_reducible repeat (first | apply Kd.R_alloc | apply Kd.R_drewN | apply Kd.R_drew)); exact Kd.R_mono (Kd.R_far (p := ⟨gb364, 5, none⟩) (Kd.R_far (p := ⟨gb364, 4, none⟩) (Kd.R_far (p := ⟨gb364, 3, none⟩) (Kd.R_far (p := ⟨gb364, 2, none⟩) (Kd.R_far (p := ⟨gb364, 1, none⟩) (Kd.R_far (p := ⟨gb364, 0, none⟩) (Kd.R_far (p := ⟨gb363, 0, none⟩) (Kd.R_mono (Kd.R_types HO355.out BK363.out (by decide)) (fun k_ hk => (⟨hk, hk.1.2⟩ : _ ∧ k_ ≠ gb364))) (fun _ hk => hk.1.2) (.slice Ao104 t353.length co104)) (fun _ hk => hk.2) (.int .i64 t356)) (fun _ hk => hk.2) (.int .i64 t357)) (fun _ hk => hk.2) (.int .i64 t358)) (fun _ hk => hk.2) (.int .i64 t359)) (fun _ hk => hk.2) (.int .i64 t360)) (fun _ hk => hk.2) (.int .i64 t361)) (fun _ hk => ⟨hk.1.1.1.1.1.1.2, ⟨hk.1.1.1.1.1.2, ⟨hk.1.1.1.1.2, ⟨hk.1.1.1.2, hk.1.1.2⟩⟩⟩⟩)) : P := h
theorem a5_4 {P : Prop} (h : P := by (with_reducible repeat (first | apply Kd.R_alloc | apply Kd.R_drewN | apply Kd.R_drew)); exact Kd.R_mono (Kd.R_far (p := ⟨gb364, 5, none⟩) (Kd.R_far (p := ⟨gb364, 4, none⟩) (Kd.R_far (p := ⟨gb364, 3, none⟩) (Kd.R_far (p := ⟨gb364, 2, none⟩) (Kd.R_far (p := ⟨gb364, 1, none⟩) (Kd.R_far (p := ⟨gb364, 0, none⟩) (Kd.R_far (p := ⟨gb363, 0, none⟩) (Kd.R_mono (Kd.R_types HO350.out BK363.out (by decide)) (fun k_ hk => (⟨hk, hk.1.2⟩ : _ ∧ k_ ≠ gb364))) (fun _ hk => hk.1.2) (.slice Ao104 t353.length co104)) (fun _ hk => hk.2) (.int .i64 t356)) (fun _ hk => hk.2) (.int .i64 t357)) (fun _ hk => hk.2) (.int .i64 t358)) (fun _ hk => hk.2) (.int .i64 t359)) (fun _ hk => hk.2) (.int .i64 t360)) (fun _ hk => hk.2) (.int .i64 t361)) (fun _ hk => ⟨hk.1.1.1.1.1.1.2, ⟨hk.1.1.1.1.1.2, ⟨hk.1.1.1.2, ⟨hk.1.1.1.1.2, hk.1.1.2⟩⟩⟩⟩)) : P := h
theorem a5_3 {P : Prop} (h : P := by (with_reducible repeat (first | apply Kd.R_alloc | apply Kd.R_drewN | apply Kd.R_drew)); exact Kd.R_mono (Kd.R_far (p := ⟨gb364, 5, none⟩) (Kd.R_far (p := ⟨gb364, 4, none⟩) (Kd.R_far (p := ⟨gb364, 3, none⟩) (Kd.R_far (p := ⟨gb364, 2, none⟩) (Kd.R_far (p := ⟨gb364, 1, none⟩) (Kd.R_far (p := ⟨gb364, 0, none⟩) (Kd.R_far (p := ⟨gb363, 0, none⟩) (Kd.R_mono (Kd.R_types HO_324000.out BK363.out (by decide)) (fun k_ hk => (⟨hk, hk.1.2⟩ : _ ∧ k_ ≠ gb364))) (fun _ hk => hk.1.2) (.slice Ao104 t353.length co104)) (fun _ hk => hk.2) (.int .i64 t356)) (fun _ hk => hk.2) (.int .i64 t357)) (fun _ hk => hk.2) (.int .i64 t358)) (fun _ hk => hk.2) (.int .i64 t359)) (fun _ hk => hk.2) (.int .i64 t360)) (fun _ hk => hk.2) (.int .i64 t361)) (fun _ hk => ⟨hk.1.1.1.1.1.1, ⟨hk.1.1.1.1.2, ⟨hk.1.1.1.2, ⟨hk.1.1.1.1.1.2, hk.1.1.2⟩⟩⟩⟩)) : P := h
theorem a5_2 {P : Prop} (h : P := by (with_reducible repeat (first | apply Kd.R_alloc | apply Kd.R_drewN | apply Kd.R_drew)); exact Kd.R_mono (Kd.R_far (p := ⟨gb364, 5, none⟩) (Kd.R_far (p := ⟨gb364, 4, none⟩) (Kd.R_far (p := ⟨gb364, 3, none⟩) (Kd.R_far (p := ⟨gb364, 2, none⟩) (Kd.R_far (p := ⟨gb364, 1, none⟩) (Kd.R_far (p := ⟨gb364, 0, none⟩) (Kd.R_far (p := ⟨gb363, 0, none⟩) (Kd.R_mono (Kd.R_types HO_318000.out BK363.out (by decide)) (fun k_ hk => (⟨hk, hk.1.2⟩ : _ ∧ k_ ≠ gb364))) (fun _ hk => hk.1.2) (.slice Ao104 t353.length co104)) (fun _ hk => hk.2) (.int .i64 t356)) (fun _ hk => hk.2) (.int .i64 t357)) (fun _ hk => hk.2) (.int .i64 t358)) (fun _ hk => hk.2) (.int .i64 t359)) (fun _ hk => hk.2) (.int .i64 t360)) (fun _ hk => hk.2) (.int .i64 t361)) (fun _ hk => ⟨hk.1.1.1.1.1.1, ⟨hk.1.1.1.1.2, ⟨hk.1.1.1.2, ⟨hk.1.1.1.1.1.2, hk.1.1.2⟩⟩⟩⟩)) : P := h
theorem a5_1 {P : Prop} (h : P := by (with_reducible repeat (first | apply Kd.R_alloc | apply Kd.R_drewN | apply Kd.R_drew)); exact (Kd.R_mono (Kd.R_far (p := ⟨gb352, 0, none⟩) (Kd.R_types HO350.out BK352.out (by decide)) (fun _ hk => hk.2) (.slice Ao96 t348.length co96)) (fun _ h_ => h_.1))) : P := h
theorem a5_0 {P : Prop} (h : P := by (with_reducible repeat (first | apply Kd.R_alloc | apply Kd.R_drewN | apply Kd.R_drew)); exact (Kd.R_mono (Kd.R_mono (Kd.R_far (p := ⟨gb318, 5, none⟩) (Kd.R_far (p := ⟨gb318, 4, none⟩) (Kd.R_far (p := ⟨gb318, 3, none⟩) (Kd.R_far (p := ⟨gb318, 2, none⟩) (Kd.R_far (p := ⟨gb318, 1, none⟩) (Kd.R_far (p := ⟨gb318, 0, none⟩) (Kd.R_far (p := ⟨gb317, 0, none⟩) (Kd.R_mono (Kd.R_types HO310.out BK317.out (by decide)) (fun k_ hk => (⟨hk, hk.1.2⟩ : _ ∧ k_ ≠ gb318))) (fun _ hk => hk.1.2) (.slice Ao10 t308.length co10)) (fun _ hk => hk.2) (.int .i64 t311)) (fun _ hk => hk.2) (.int .i64 t312)) (fun _ hk => hk.2) (.int .i64 t313)) (fun _ hk => hk.2) (.int .i64 t314)) (fun _ hk => hk.2) (.int .i64 t315)) (fun _ hk => hk.2) (.int .i64 t316)) (fun _ h_ => h_.1)) (fun _ h_ => h_.1))) : P := h
mutual
def laws_FnQueues.j0 : Nat → List Int → Bool → List (S28) → Option (Bool)
  | 0, _, _, _ => none
  | k + 1, x0, x60, x324000 => if x60 = true then (some false) else ((impl_OrderOf.f k x324000).bind fun t325 => (laws_FnQueues.l0 k x0 t325 0 x324000))
def laws_FnQueues.l0 : Nat → List Int → List Int → Int → List (S28) → Option (Bool)
  | 0, _, _, _, _ => none
  | k + 1, x0, x7, x8, x324000 => if x8 < (x7.length : Int) then (if 0 ≤ x8 then (if x8 ≤ (x7.length : Int) then ((laws_contains.f k (x7.take (x8 : Int).toNat) (rd x7 x8)).bind fun t333 => (if t333 = true then (some false) else (if x8 > 0 then (if 0 ≤ (wrap64 (x8 - 1)) then (if (wrap64 (x8 - 1)) < (x7.length : Int) then (if 0 ≤ (rd x7 (wrap64 (x8 - 1))) then (if (rd x7 (wrap64 (x8 - 1))) < (x324000.length : Int) then (if 0 ≤ (rd x7 x8) then (if (rd x7 x8) < (x324000.length : Int) then (if ((rd_T28 x324000 (rd x7 (wrap64 (x8 - 1)))).f5) = ((rd_T28 x324000 (rd x7 x8)).f5) then (if (rd x7 (wrap64 (x8 - 1))) ≥ (rd x7 x8) then (some false) else (if ((rd_T28 x324000 (rd x7 (wrap64 (x8 - 1)))).f5) = 1 then (laws_FnQueues.l0 k x0 x7 (wrap64 (x8 + 1)) x324000) else (if ((rd_T28 x324000 (rd x7 x8)).f5) = 1 then (some false) else (laws_FnQueues.l0 k x0 x7 (wrap64 (x8 + 1)) x324000)))) else (if ((rd_T28 x324000 (rd x7 (wrap64 (x8 - 1)))).f5) = 1 then (laws_FnQueues.l0 k x0 x7 (wrap64 (x8 + 1)) x324000) else (if ((rd_T28 x324000 (rd x7 x8)).f5) = 1 then (some false) else (laws_FnQueues.l0 k x0 x7 (wrap64 (x8 + 1)) x324000)))) else (none)) else (none)) else (none)) else (none)) else (none)) else (none)) else (laws_FnQueues.l0 k x0 x7 (wrap64 (x8 + 1)) x324000)))) else (none)) else (none)) else ((spec_DrawTakePacket.f k x0).bind fun bt348 => ((impl_TakePacket.f bt348.1 bt348.2).bind fun bt353 => (if bt353.2.2.2.2.2.2.2 = true then (if (bt353.1.length : Int) = (wrap64 ((bt348.1.length : Int) - 1)) then (if 0 ≤ bt348.2 then (if bt348.2 < (bt348.1.length : Int) then (if (!(bt353.2.1 == ((rd_T28 bt348.1 bt348.2).f0)) || (!(bt353.2.2.1 == ((rd_T28 bt348.1 bt348.2).f1)) || (!(bt353.2.2.2.1 == ((rd_T28 bt348.1 bt348.2).f2)) || (!(bt353.2.2.2.2.1 == ((rd_T28 bt348.1 bt348.2).f3)) || (!(bt353.2.2.2.2.2.1 == ((rd_T28 bt348.1 bt348.2).f4)) || (!(bt353.2.2.2.2.2.2.1 == ((rd_T28 bt348.1 bt348.2).f5)))))))) = true then (some false) else ((impl_CountClass.f k bt353.1 bt353.2.2.2.2.2.2.1).bind fun t366 => ((impl_CountClass.f k bt348.1 bt353.2.2.2.2.2.2.1).bind fun t367 => (if t366 = (wrap64 (t367 - 1)) then (some ((x7.length : Int) == (x324000.length : Int))) else (some false))))) else (none)) else (none)) else (some false)) else (some ((x7.length : Int) == (x324000.length : Int))))))
end
def laws_FnQueues.f (k : Nat) (l0 : List Int) : Option (Bool) := (laws_big.f l0).bind fun t307 => (if t307 = true then (some true) else ((spec_DrawPushPacket.f k l0).bind fun bt308 => ((impl_PushPacket.f bt308.1 bt308.2.1 bt308.2.2.1 bt308.2.2.2.1 bt308.2.2.2.2.1 bt308.2.2.2.2.2.1 bt308.2.2.2.2.2.2).bind fun bt319 => (if bt319.2 = true then (if (bt319.1.length : Int) = (wrap64 ((bt308.1.length : Int) + 1)) then ((impl_FindPacket.f bt319.1 bt308.2.1).bind fun t324 => (if t324 = (bt308.1.length : Int) then (laws_FnQueues.j0 k l0 false bt319.1) else (laws_FnQueues.j0 k l0 true bt319.1))) else (laws_FnQueues.j0 k l0 true bt319.1)) else (laws_FnQueues.j0 k l0 ((bt319.1.length : Int) != (bt308.1.length : Int)) bt319.1)))))
theorem laws_FnQueues.mono_l : ∀ k, (∀ y0 y1 y2, LeO (laws_FnQueues.j0 k y0 y1 y2) (laws_FnQueues.j0 (k + 1) y0 y1 y2)) ∧ (∀ y0 y1 y2 y3, LeO (laws_FnQueues.l0 k y0 y1 y2 y3) (laws_FnQueues.l0 (k + 1) y0 y1 y2 y3))
  | 0 => ⟨fun _ _ _ r h => by simp [laws_FnQueues.j0] at h, fun _ _ _ _ r h => by simp [laws_FnQueues.l0] at h⟩
  | k + 1 => by
    obtain ⟨ih0, ih1⟩ := laws_FnQueues.mono_l k
    refine ⟨?_, ?_⟩
    · intro y0 y1 y2
      unfold laws_FnQueues.j0
      have m0 := @impl_CountClass.mono
      have m1 := @impl_OrderOf.mono
      have m2 := @laws_contains.mono
      have m3 := @spec_DrawPushPacket.mono
      have m4 := @spec_DrawTakePacket.mono
      exact mo
    · intro y0 y1 y2 y3
      unfold laws_FnQueues.l0
      have m0 := @impl_CountClass.mono
      have m1 := @impl_OrderOf.mono
      have m2 := @laws_contains.mono
      have m3 := @spec_DrawPushPacket.mono
      have m4 := @spec_DrawTakePacket.mono
      exact mo
theorem laws_FnQueues.mono : ∀ a0 k, LeO (laws_FnQueues.f k a0) (laws_FnQueues.f (k + 1) a0) := by
  intro a0 k
  obtain ⟨ih0, ih1⟩ := laws_FnQueues.mono_l k
  unfold laws_FnQueues.f
  have m0 := @impl_CountClass.mono
  have m1 := @impl_OrderOf.mono
  have m2 := @laws_contains.mono
  have m3 := @spec_DrawPushPacket.mono
  have m4 := @spec_DrawTakePacket.mono
  exact mo
def laws_FnQueues.T5 : Bool × List (List Nat × List Nat) := (true, [([], []), ([0], [0]), ([1], [1]), ([2, 1], [1, 2]), ([3, 1], [1, 3]), ([1], [1]), ([5, 1], [1, 5]), ([6, 1], [1, 6]), ([7, 1], [1, 7]), ([4, 8, 1], [1, 4, 8]), ([9, 1, 1], [1, 9]), ([10], [10]), ([10], [10]), ([12, 10], [10, 12]), ([11, 13, 10, 10], [10, 11, 13]), ([10], [10]), ([15, 10], [10, 15]), ([16, 10], [10, 16]), ([14, 17, 10], [10, 14, 17]), ([10, 18, 1], [1, 10, 18]), ([1, 19], [1, 19]), ([20, 14], [20]), ([21], [21]), ([22, 21], [21, 22]), ([23, 21, 21], [21, 23]), ([24], [24]), ([25, 24], [24, 25]), ([26, 24], [24, 26]), ([24], [24]), ([28, 24], [24, 28]), ([29, 24], [24, 29]), ([27, 30, 24], [24, 27, 30]), ([24, 31, 21], [21, 24, 31]), ([21, 32], [21, 32])])
def laws_FnQueues.B5 : List Nat := [0, 1, 3, 7, 15, 3, 35, 99, 227, 511, 1023, 2047, 2047, 6143, 16383, 2047, 34815, 100351, 262143, 524287, 1048575, 2097151, 4194303, 8388607, 16777215, 33554431, 67108863, 134217727, 33554431, 301989887, 838860799, 2147483647, 4294967295, 8589934591]
theorem laws_FnQueues.tab5 : rtab .any (opsOf Try.f3 5) = laws_FnQueues.T5 := by kernel_rfl
theorem laws_FnQueues.bits5 : waitsOk laws_FnQueues.T5.2 laws_FnQueues.B5 = true := by kernel_rfl
def laws_FnQueues.T11 : Bool × List (List Nat × List Nat) := (true, [([], []), ([], []), ([0, 1], [0, 1]), ([], []), ([], []), ([3, 4], [3, 4]), ([5], [5]), ([2, 6], [2, 6]), ([7, 7], [7]), ([8], [8]), ([9, 8], [8, 9]), ([10, 8, 8], [8, 10]), ([11], [11]), ([12, 11], [11, 12]), ([11], [11]), ([11], [11]), ([15, 11], [11, 15]), ([14, 16, 11], [11, 14, 16]), ([17, 11], [11, 17]), ([13, 18, 11], [11, 13, 18]), ([19, 11], [11, 19]), ([20, 11], [11, 20]), ([11], [11]), ([22, 11], [11, 22]), ([11], [11]), ([11], [11]), ([24, 25, 11], [11, 24, 25]), ([26, 11], [11, 26]), ([23, 27, 11], [11, 23, 27]), ([28, 11], [11, 28]), ([29, 11], [11, 29]), ([21, 30, 11], [11, 21, 30]), ([11, 31, 8], [8, 11, 31]), ([32, 11, 8], [8, 32]), ([33], [33]), ([33], [33]), ([35, 33], [33, 35]), ([34, 36, 33], [33, 34, 36]), ([37, 33], [33, 37]), ([33], [33]), ([33], [33]), ([39, 40, 33], [33, 39, 40]), ([41, 33], [33, 41]), ([38, 42, 33], [33, 38, 42]), ([33, 43, 8], [8, 33, 43]), ([8, 44], [8, 44]), ([45, 33], [45]), ([46], [46]), ([47, 46], [46, 47]), ([48, 46, 46], [46, 48]), ([49], [49]), ([50, 49], [49, 50]), ([49], [49]), ([49], [49]), ([53, 49], [49, 53]), ([52, 54, 49], [49, 52, 54]), ([55, 49], [49, 55]), ([51, 56, 49], [49, 51, 56]), ([57, 49], [49, 57]), ([58, 49], [49, 58]), ([59, 49], [49, 59]), ([49, 60, 46], [46, 49, 60]), ([61, 49, 46], [46, 61]), ([62], [62]), ([63, 62], [62, 63]), ([62], [62]), ([62], [62]), ([65, 66, 62], [62, 65, 66]), ([67, 62], [62, 67]), ([64, 68, 62], [62, 64, 68]), ([69, 62], [62, 69]), ([70, 62], [62, 70]), ([71, 62], [62, 71]), ([62, 72, 46], [46, 62, 72]), ([46, 73], [46, 73])])
def laws_FnQueues.B11 : List Nat := [0, 0, 3, 0, 0, 24, 56, 127, 255, 511, 1023, 2047, 4095, 8191, 4095, 4095, 36863, 118783, 249855, 524287, 1048575, 2097151, 4095, 4198399, 4095, 4095, 50335743, 117444607, 264245247, 532680703, 1069551615, 2147483647, 4294967295, 8589934591, 17179869183, 17179869183, 51539607551, 137438953471, 274877906943, 17179869183, 17179869183, 1666447310847, 3865470566399, 8796093022207, 17592186044415, 35184372088831, 70368744177663, 140737488355327, 281474976710655, 562949953421311, 1125899906842623, 2251799813685247, 1125899906842623, 1125899906842623, 10133099161583615, 32651097298436095, 68679894317400063, 144115188075855871, 288230376151711743, 576460752303423487, 1152921504606846975, 2305843009213693951, 4611686018427387903, 9223372036854775807, 18446744073709551615, 9223372036854775807, 9223372036854775807, 119903836479112085503, 267477789068788498431, 590295810358705651711, 1180591620717411303423, 2361183241434822606847, 4722366482869645213695, 9444732965739290427391, 18889465931478580854783]
theorem laws_FnQueues.tab11 : rtab .any (opsOf Try.f3 11) = laws_FnQueues.T11 := by kernel_rfl
theorem laws_FnQueues.bits11 : waitsOk laws_FnQueues.T11.2 laws_FnQueues.B11 = true := by kernel_rfl
def laws_FnQueues.T15 : Bool × List (List Nat × List Nat) := (true, [([], []), ([0], [0]), ([1], [1]), ([2, 1], [1, 2]), ([3, 1], [1, 3]), ([1], [1]), ([5, 1], [1, 5]), ([6, 1], [1, 6]), ([7, 1], [1, 7]), ([4, 8, 1], [1, 4, 8]), ([9, 1, 1], [1, 9]), ([10], [10]), ([10], [10]), ([12, 10], [10, 12]), ([10], [10]), ([13, 14, 10], [10, 13, 14]), ([15, 10], [10, 15]), ([11, 16, 10], [10, 11, 16]), ([10, 17, 1], [1, 10, 17]), ([18, 10, 1], [1, 18]), ([19], [19]), ([19], [19]), ([21, 19], [19, 21]), ([20, 22, 19, 19], [19, 20, 22]), ([19], [19]), ([19], [19]), ([25, 19], [19, 25]), ([24, 26, 23, 19], [19, 24, 26]), ([27, 19], [19, 27]), ([23, 28, 19], [19, 23, 28]), ([19, 29, 1], [1, 19, 29]), ([1, 30], [1, 30])])
def laws_FnQueues.B15 : List Nat := [0, 1, 3, 7, 15, 3, 35, 99, 227, 511, 1023, 2047, 2047, 6143, 2047, 30719, 63487, 131071, 262143, 524287, 1048575, 1048575, 3145727, 8388607, 1048575, 1048575, 34603007, 134217727, 268435455, 536870911, 1073741823, 2147483647]
theorem laws_FnQueues.tab15 : rtab .any (opsOf Try.f3 15) = laws_FnQueues.T15 := by kernel_rfl
theorem laws_FnQueues.bits15 : waitsOk laws_FnQueues.T15.2 laws_FnQueues.B15 = true := by kernel_rfl
theorem e5_0 {P : Prop} (h : P := by
 try go_wp2_with (first | ((with_reducible refine gc 10 rfl ?_); refine gL (some 146) Try.func10 #[.slice A0 l0.length c0] ?_; (with_reducible refine (spec_DrawTakePacket.calls k2 _ _ l0 t348 t351 _ ?side1 ?side2 A86.out).mono ?_); (case side1 => exact cb HR0); (case side2 => exact HC0.out); rintro e w94 ⟨v349, rfl, ho0, hb⟩; refine ⟨_, rfl, ?_⟩; replace HO_7 := rb HO_7 hb; have HO350 := am (Kd.R_lower (Kd.R_newB (Kd.R_new' (Kd.R_new' ho0 (Kd.R_lt (sr HO_318000))) (Kd.R_lt (sr HO_324000))) (g := gb318) (o := .cells #[.int .i64 t311, .int .i64 t312, .int .i64 t313, .int .i64 t314, .int .i64 t315, .int .i64 t316] 28 (0, 0)) (sk BK318)) (below_size (sbw))); replace HO_318000 := am (Kd.R_elder' (sr HO_318000) (Kd.R_base ho0) hb); replace HO_324000 := am (Kd.R_elder' (sr HO_324000) (Kd.R_base ho0) hb); replace BK317 := bb BK317 hb; replace BK318 := bb BK318 hb; replace BK323 := bb BK323 hb; replace HB := bsw hb; (try clear hb); (try clear hk); (try clear ho0)) | ((with_reducible refine gd 9 rfl ?_); (try (refine gate_guard (by rfl) ?_; dsimp only)); refine bx 9 #[.slice none 0 0] 26 ?_; intro gb352 hg w95 hbox hb; replace HO_7 := rb HO_7 hb; replace HO_318000 := rb HO_318000 hb; replace HO_324000 := rb HO_324000 hb; replace HO350 := rb HO350 hb; have GW352 := bzw w hg; have GE352 := bzw w hg; replace HB := bsw hb; have BK352 := am hbox; have NB317_352 := nl BK317 hg; have NB352_317 := ng BK317 hg; replace BK317 := bb BK317 hb; have NB318_352 := nl BK318 hg; have NB352_318 := ng BK318 hg; replace BK318 := bb BK318 hb; have NB323_352 := nl BK323 hg; have NB352_323 := ng BK323 hg; replace BK323 := bb BK323 hb; clear hb hbox hg; obtain ⟨Ao96, co96, eo96⟩ := Kd.R_slice HO350.out; subst eo96; have hnb97 := NB352_317.out; have hnc97 := NB317_352.out; have hnb98 := NB352_318.out; have hnc98 := NB318_352.out; have hnb99 := NB352_323.out; have hnc99 := NB323_352.out; obtain ⟨hcz100_0, hfz100_0⟩ := cc1 BK352) | (have _ := c89b0; (with_reducible refine gc 11 rfl ?_); refine gL (some 152) Try.func11 #[.agg #[.slice Ao96 t348.length co96], .int .i64 t351] ?_; (with_reducible refine (impl_TakePacket.calls _ _ t348 t351 t353 t356 t357 t358 t359 t360 t361 true _ ?side1 ?side2 A87.out).mono ?_); (case side1 => refine (Kd.R_reads' (e := 28) (base := w.heap.size) (ok := fun k_ => (((True ∧ some k_ ≠ (.slice Ao10 t308.length co10 : Value).ownBlock) ∧ some k_ ≠ (.slice Ao16 t319.length co16 : Value).ownBlock) ∧ k_ ≠ gb318)) (n := t348.length) (c := co96) ?_).2.2; exact a5_1); (case side2 => exact (Kd.R_reads' HO350.out).2.1); rintro e w101 ⟨v354, rfl, ho0, hb⟩; refine ⟨_, rfl, ?_⟩; replace HO_7 := am (Kd.R_below a5_22 hb); have HO355 := am (Kd.R_lower (Kd.R_newB (Kd.R_new' (Kd.R_new' (Kd.R_new' ho0 (Kd.R_lt a5_8)) (Kd.R_lt a5_9)) (Kd.R_lt a5_1)) (g := gb318) (o := .cells #[.int .i64 t311, .int .i64 t312, .int .i64 t313, .int .i64 t314, .int .i64 t315, .int .i64 t316] 28 (0, 0)) (sp BK318)) (below_size (sbw))); replace HO_318000 := am (Kd.R_elder' a5_8 (Kd.R_base ho0) hb); replace HO_324000 := am (Kd.R_elder' a5_9 (Kd.R_base ho0) hb); replace HO350 := am (Kd.R_elder' a5_1 (Kd.R_base ho0) hb); replace BK317 := am (blk_below (g := gb317) (o := .cells #[.slice Ao10 t308.length co10] 26 (0, 0)) (sp BK317) hb); replace BK318 := am (blk_below (g := gb318) (o := .cells #[.int .i64 t311, .int .i64 t312, .int .i64 t313, .int .i64 t314, .int .i64 t315, .int .i64 t316] 28 (0, 0)) (sp BK318) hb); replace BK323 := am (blk_below (g := gb323) (o := .cells #[.slice Ao16 t319.length co16] 26 (0, 0)) (sp BK323) hb); replace BK352 := am (blk_below (g := gb352) (o := .cells #[.slice Ao96 t348.length co96] 26 (0, 0)) (sp BK352) hb); replace HB := bsw hb; (try clear hb); (try clear hk); (try clear ho0)) | ((with_reducible refine gd 11 rfl ?_); (try (refine gate_guard (by rfl) ?_; dsimp only)); refine bx 11 #[.slice none 0 0] 26 ?_; intro gb363 hg w102 hbox hb; replace HO_7 := rb HO_7 hb; replace HO_318000 := rb HO_318000 hb; replace HO_324000 := rb HO_324000 hb; replace HO350 := rb HO350 hb; replace HO355 := rb HO355 hb; have GW363 := bzw w hg; have GE363 := bzw w hg; replace HB := bsw hb; have BK363 := am hbox; have NB317_363 := nl BK317 hg; have NB363_317 := ng BK317 hg; replace BK317 := bb BK317 hb; have NB318_363 := nl BK318 hg; have NB363_318 := ng BK318 hg; replace BK318 := bb BK318 hb; have NB323_363 := nl BK323 hg; have NB363_323 := ng BK323 hg; replace BK323 := bb BK323 hb; have NB352_363 := nl BK352 hg; have NB363_352 := ng BK352 hg; replace BK352 := bb BK352 hb; clear hb hbox hg) | ((with_reducible refine gd 12 rfl ?_); (try (refine gate_guard (by rfl) ?_; dsimp only)); refine bx 12 #[.int .i64 0, .int .i64 0, .int .i64 0, .int .i64 0, .int .i64 0, .int .i64 0] 28 ?_; intro gb364 hg w103 hbox hb; replace HO_7 := rb HO_7 hb; replace HO_318000 := am (Kd.R_below (Kd.R_elderB (sr HO_318000) gb364 (Nat.le_of_eq hg.symm)) hb); replace HO_324000 := am (Kd.R_below (Kd.R_elderB (sr HO_324000) gb364 (Nat.le_of_eq hg.symm)) hb); replace HO350 := am (Kd.R_below (Kd.R_elderB (sr HO350) gb364 (Nat.le_of_eq hg.symm)) hb); replace HO355 := am (Kd.R_below (Kd.R_elderB (sr HO355) gb364 (Nat.le_of_eq hg.symm)) hb); have GW364 := bzw w hg; have GE364 := bzw w hg; replace HB := bsw hb; have BK364 := am hbox; have NB317_364 := nl BK317 hg; have NB364_317 := ng BK317 hg; replace BK317 := bb BK317 hb; have NB318_364 := nl BK318 hg; have NB364_318 := ng BK318 hg; replace BK318 := bb BK318 hb; have NB323_364 := nl BK323 hg; have NB364_323 := ng BK323 hg; replace BK323 := bb BK323 hb; have NB352_364 := nl BK352 hg; have NB364_352 := ng BK352 hg; replace BK352 := bb BK352 hb; have NB363_364 := nl BK363 hg; have NB364_363 := ng BK363 hg; replace BK363 := bb BK363 hb; clear hb hbox hg; obtain ⟨Ao104, co104, eo104⟩ := Kd.R_slice HO355.out; subst eo104; have hnb105 := NB363_317.out; have hnc105 := NB317_363.out; have hnb106 := NB363_318.out; have hnc106 := NB318_363.out; have hnb107 := NB363_323.out; have hnc107 := NB323_363.out; have hnb108 := NB363_352.out; have hnc108 := NB352_363.out; have hnb109 := NB363_364.out; have hnc109 := NB364_363.out; obtain ⟨hcz110_0, hfz110_0⟩ := cc1 BK363; have hnb111 := NB364_317.out; have hnc111 := NB317_364.out; have hnb112 := NB364_318.out; have hnc112 := NB318_364.out; have hnb113 := NB364_323.out; have hnc113 := NB323_364.out; have hnb114 := NB364_352.out; have hnc114 := NB352_364.out; obtain ⟨hcz115_0, hcz115_1, hcz115_2, hcz115_3, hcz115_4, hcz115_5, hfz115_0, hfz115_1, hfz115_2, hfz115_3, hfz115_4, hfz115_5⟩ := cc6 BK364) | ((with_reducible refine gc 11 rfl ?_); refine gL (some 152) Try.func11 #[.agg #[.slice Ao96 t348.length co96], .int .i64 t351] ?_; (with_reducible refine (impl_TakePacket.calls _ _ t348 t351 t353 t356 t357 t358 t359 t360 t361 false _ ?side1 ?side2 A87.out).mono ?_); (case side1 => refine (Kd.R_reads' (e := 28) (base := w.heap.size) (ok := fun k_ => (((True ∧ some k_ ≠ (.slice Ao10 t308.length co10 : Value).ownBlock) ∧ some k_ ≠ (.slice Ao16 t319.length co16 : Value).ownBlock) ∧ k_ ≠ gb318)) (n := t348.length) (c := co96) ?_).2.2; exact a5_1); (case side2 => exact (Kd.R_reads' HO350.out).2.1); rintro e w211 ⟨v354, rfl, ho0, hb⟩; refine ⟨_, rfl, ?_⟩; replace HO_7 := am (Kd.R_below a5_22 hb); have HO355 := am (Kd.R_lower (Kd.R_newB (Kd.R_new' (Kd.R_new' (Kd.R_new' ho0 (Kd.R_lt a5_8)) (Kd.R_lt a5_9)) (Kd.R_lt a5_1)) (g := gb318) (o := .cells #[.int .i64 t311, .int .i64 t312, .int .i64 t313, .int .i64 t314, .int .i64 t315, .int .i64 t316] 28 (0, 0)) (sp BK318)) (below_size (sbw))); replace HO_318000 := am (Kd.R_elder' a5_8 (Kd.R_base ho0) hb); replace HO_324000 := am (Kd.R_elder' a5_9 (Kd.R_base ho0) hb); replace HO350 := am (Kd.R_elder' a5_1 (Kd.R_base ho0) hb); replace BK317 := am (blk_below (g := gb317) (o := .cells #[.slice Ao10 t308.length co10] 26 (0, 0)) (sp BK317) hb); replace BK318 := am (blk_below (g := gb318) (o := .cells #[.int .i64 t311, .int .i64 t312, .int .i64 t313, .int .i64 t314, .int .i64 t315, .int .i64 t316] 28 (0, 0)) (sp BK318) hb); replace BK323 := am (blk_below (g := gb323) (o := .cells #[.slice Ao16 t319.length co16] 26 (0, 0)) (sp BK323) hb); replace BK352 := am (blk_below (g := gb352) (o := .cells #[.slice Ao96 t348.length co96] 26 (0, 0)) (sp BK352) hb); replace HB := bsw hb; (try clear hb); (try clear hk); (try clear ho0)))
 first
 | have _ := A118
   have n0_ : Aside0 (Kd.R (Kd.int .i64) 3 (((((((w103.setCell ⟨gb363, 0, none⟩ (.slice Ao104 t353.length co104)).setCell ⟨gb364, 0, none⟩ (.int .i64 t356)).setCell ⟨gb364, 1, none⟩ (.int .i64 t357)).setCell ⟨gb364, 2, none⟩ (.int .i64 t358)).setCell ⟨gb364, 3, none⟩ (.int .i64 t359)).setCell ⟨gb364, 4, none⟩ (.int .i64 t360)).setCell ⟨gb364, 5, none⟩ (.int .i64 t361)) w.heap.size (fun _ => True) (.slice Ao121 t325.length co121) t325) := ⟨a5_10⟩
   have n1_ : Aside0 (Kd.R k28 28 (((((((w103.setCell ⟨gb363, 0, none⟩ (.slice Ao104 t353.length co104)).setCell ⟨gb364, 0, none⟩ (.int .i64 t356)).setCell ⟨gb364, 1, none⟩ (.int .i64 t357)).setCell ⟨gb364, 2, none⟩ (.int .i64 t358)).setCell ⟨gb364, 3, none⟩ (.int .i64 t359)).setCell ⟨gb364, 4, none⟩ (.int .i64 t360)).setCell ⟨gb364, 5, none⟩ (.int .i64 t361)) w.heap.size (fun k_ => some k_ ≠ (.slice Ao16 t319.length co16 : Value).ownBlock ∧ some k_ ≠ (.slice Ao96 t348.length co96 : Value).ownBlock ∧ some k_ ≠ (.slice Ao104 t353.length co104 : Value).ownBlock ∧ k_ ≠ gb318 ∧ k_ ≠ gb364) (.slice Ao10 t308.length co10) t308) := ⟨a5_2⟩
   have n2_ : Aside0 (Kd.R k28 28 (((((((w103.setCell ⟨gb363, 0, none⟩ (.slice Ao104 t353.length co104)).setCell ⟨gb364, 0, none⟩ (.int .i64 t356)).setCell ⟨gb364, 1, none⟩ (.int .i64 t357)).setCell ⟨gb364, 2, none⟩ (.int .i64 t358)).setCell ⟨gb364, 3, none⟩ (.int .i64 t359)).setCell ⟨gb364, 4, none⟩ (.int .i64 t360)).setCell ⟨gb364, 5, none⟩ (.int .i64 t361)) w.heap.size (fun k_ => some k_ ≠ (.slice Ao10 t308.length co10 : Value).ownBlock ∧ some k_ ≠ (.slice Ao96 t348.length co96 : Value).ownBlock ∧ some k_ ≠ (.slice Ao104 t353.length co104 : Value).ownBlock ∧ k_ ≠ gb318 ∧ k_ ≠ gb364) (.slice Ao16 t319.length co16) t319) := ⟨a5_3⟩
   have n3_ : Aside0 (Kd.R k28 28 (((((((w103.setCell ⟨gb363, 0, none⟩ (.slice Ao104 t353.length co104)).setCell ⟨gb364, 0, none⟩ (.int .i64 t356)).setCell ⟨gb364, 1, none⟩ (.int .i64 t357)).setCell ⟨gb364, 2, none⟩ (.int .i64 t358)).setCell ⟨gb364, 3, none⟩ (.int .i64 t359)).setCell ⟨gb364, 4, none⟩ (.int .i64 t360)).setCell ⟨gb364, 5, none⟩ (.int .i64 t361)) w.heap.size (fun k_ => some k_ ≠ (.slice Ao10 t308.length co10 : Value).ownBlock ∧ some k_ ≠ (.slice Ao16 t319.length co16 : Value).ownBlock ∧ some k_ ≠ (.slice Ao104 t353.length co104 : Value).ownBlock ∧ k_ ≠ gb318 ∧ k_ ≠ gb364) (.slice Ao96 t348.length co96) t348) := ⟨a5_4⟩
   have n4_ : Aside0 (Kd.R k28 28 (((((((w103.setCell ⟨gb363, 0, none⟩ (.slice Ao104 t353.length co104)).setCell ⟨gb364, 0, none⟩ (.int .i64 t356)).setCell ⟨gb364, 1, none⟩ (.int .i64 t357)).setCell ⟨gb364, 2, none⟩ (.int .i64 t358)).setCell ⟨gb364, 3, none⟩ (.int .i64 t359)).setCell ⟨gb364, 4, none⟩ (.int .i64 t360)).setCell ⟨gb364, 5, none⟩ (.int .i64 t361)) w.heap.size (fun k_ => some k_ ≠ (.slice Ao10 t308.length co10 : Value).ownBlock ∧ some k_ ≠ (.slice Ao16 t319.length co16 : Value).ownBlock ∧ some k_ ≠ (.slice Ao96 t348.length co96 : Value).ownBlock ∧ k_ ≠ gb318 ∧ k_ ≠ gb364) (.slice Ao104 t353.length co104) t353) := ⟨a5_5⟩
   have n5_ : Aside0 ((((((((w103.setCell ⟨gb363, 0, none⟩ (.slice Ao104 t353.length co104)).setCell ⟨gb364, 0, none⟩ (.int .i64 t356)).setCell ⟨gb364, 1, none⟩ (.int .i64 t357)).setCell ⟨gb364, 2, none⟩ (.int .i64 t358)).setCell ⟨gb364, 3, none⟩ (.int .i64 t359)).setCell ⟨gb364, 4, none⟩ (.int .i64 t360)).setCell ⟨gb364, 5, none⟩ (.int .i64 t361)).heap[gb317]? = some (.cells #[.slice Ao10 t308.length co10] 26 (0, 0))) := ⟨sp BK317⟩
   have n6_ : Aside0 ((((((((w103.setCell ⟨gb363, 0, none⟩ (.slice Ao104 t353.length co104)).setCell ⟨gb364, 0, none⟩ (.int .i64 t356)).setCell ⟨gb364, 1, none⟩ (.int .i64 t357)).setCell ⟨gb364, 2, none⟩ (.int .i64 t358)).setCell ⟨gb364, 3, none⟩ (.int .i64 t359)).setCell ⟨gb364, 4, none⟩ (.int .i64 t360)).setCell ⟨gb364, 5, none⟩ (.int .i64 t361)).heap[gb318]? = some (.cells #[.int .i64 t311, .int .i64 t312, .int .i64 t313, .int .i64 t314, .int .i64 t315, .int .i64 t316] 28 (0, 0))) := ⟨sp BK318⟩
   have n7_ : Aside0 ((((((((w103.setCell ⟨gb363, 0, none⟩ (.slice Ao104 t353.length co104)).setCell ⟨gb364, 0, none⟩ (.int .i64 t356)).setCell ⟨gb364, 1, none⟩ (.int .i64 t357)).setCell ⟨gb364, 2, none⟩ (.int .i64 t358)).setCell ⟨gb364, 3, none⟩ (.int .i64 t359)).setCell ⟨gb364, 4, none⟩ (.int .i64 t360)).setCell ⟨gb364, 5, none⟩ (.int .i64 t361)).heap[gb323]? = some (.cells #[.slice Ao16 t319.length co16] 26 (0, 0))) := ⟨sp BK323⟩
   have n8_ : Aside0 ((((((((w103.setCell ⟨gb363, 0, none⟩ (.slice Ao104 t353.length co104)).setCell ⟨gb364, 0, none⟩ (.int .i64 t356)).setCell ⟨gb364, 1, none⟩ (.int .i64 t357)).setCell ⟨gb364, 2, none⟩ (.int .i64 t358)).setCell ⟨gb364, 3, none⟩ (.int .i64 t359)).setCell ⟨gb364, 4, none⟩ (.int .i64 t360)).setCell ⟨gb364, 5, none⟩ (.int .i64 t361)).heap[gb352]? = some (.cells #[.slice Ao96 t348.length co96] 26 (0, 0))) := ⟨sp BK352⟩
   have n9_ : Aside0 ((((((((w103.setCell ⟨gb363, 0, none⟩ (.slice Ao104 t353.length co104)).setCell ⟨gb364, 0, none⟩ (.int .i64 t356)).setCell ⟨gb364, 1, none⟩ (.int .i64 t357)).setCell ⟨gb364, 2, none⟩ (.int .i64 t358)).setCell ⟨gb364, 3, none⟩ (.int .i64 t359)).setCell ⟨gb364, 4, none⟩ (.int .i64 t360)).setCell ⟨gb364, 5, none⟩ (.int .i64 t361)).heap[gb363]? = some (.cells #[.slice Ao104 t353.length co104] 26 (0, 0))) := ⟨sp BK363⟩
   have n10_ : Aside0 ((((((((w103.setCell ⟨gb363, 0, none⟩ (.slice Ao104 t353.length co104)).setCell ⟨gb364, 0, none⟩ (.int .i64 t356)).setCell ⟨gb364, 1, none⟩ (.int .i64 t357)).setCell ⟨gb364, 2, none⟩ (.int .i64 t358)).setCell ⟨gb364, 3, none⟩ (.int .i64 t359)).setCell ⟨gb364, 4, none⟩ (.int .i64 t360)).setCell ⟨gb364, 5, none⟩ (.int .i64 t361)).heap[gb364]? = some (.cells #[.int .i64 t356, .int .i64 t357, .int .i64 t358, .int .i64 t359, .int .i64 t360, .int .i64 t361] 28 (0, 0))) := ⟨sp BK364⟩
   have n11_ : Aside0 (Below w.heap.size w (((((((w103.setCell ⟨gb363, 0, none⟩ (.slice Ao104 t353.length co104)).setCell ⟨gb364, 0, none⟩ (.int .i64 t356)).setCell ⟨gb364, 1, none⟩ (.int .i64 t357)).setCell ⟨gb364, 2, none⟩ (.int .i64 t358)).setCell ⟨gb364, 3, none⟩ (.int .i64 t359)).setCell ⟨gb364, 4, none⟩ (.int .i64 t360)).setCell ⟨gb364, 5, none⟩ (.int .i64 t361))) := ⟨sbw⟩
   (try clear HO_7)
   (try clear HO_318000)
   (try clear HO_324000)
   (try clear HO350)
   (try clear HO355)
   (try clear BK317)
   (try clear BK318)
   (try clear BK323)
   (try clear BK352)
   (try clear BK363)
   (try clear BK364)
   (try clear HB)
   generalize (((((((w103.setCell ⟨gb363, 0, none⟩ (.slice Ao104 t353.length co104)).setCell ⟨gb364, 0, none⟩ (.int .i64 t356)).setCell ⟨gb364, 1, none⟩ (.int .i64 t357)).setCell ⟨gb364, 2, none⟩ (.int .i64 t358)).setCell ⟨gb364, 3, none⟩ (.int .i64 t359)).setCell ⟨gb364, 4, none⟩ (.int .i64 t360)).setCell ⟨gb364, 5, none⟩ (.int .i64 t361)) = w144 at n0_ n1_ n2_ n3_ n4_ n5_ n6_ n7_ n8_ n9_ n10_ n11_ ⊢
   have HO_7 := n0_
   have HO_318000 := n1_
   have HO_324000 := n2_
   have HO350 := n3_
   have HO355 := n4_
   have BK317 := n5_
   have BK318 := n6_
   have BK323 := n7_
   have BK352 := n8_
   have BK363 := n9_
   have BK364 := n10_
   have HB := n11_
   clear n0_ n1_ n2_ n3_ n4_ n5_ n6_ n7_ n8_ n9_ n10_ n11_
   replace HO_7 := am (Kd.R_drew HO_7.out)
   replace HO_318000 := am (Kd.R_drew HO_318000.out)
   replace HO_324000 := am (Kd.R_drew HO_324000.out)
   replace HO350 := am (Kd.R_drew HO350.out)
   replace HO355 := am (Kd.R_drew HO355.out)
   replace BK317 := am (blk_drew BK317.out)
   replace BK318 := am (blk_drew BK318.out)
   replace BK323 := am (blk_drew BK323.out)
   replace BK352 := am (blk_drew BK352.out)
   replace BK363 := am (blk_drew BK363.out)
   replace BK364 := am (blk_drew BK364.out)
   replace HB := am (below_drew1 HB.out)
   have p365 : 0 ≤ (t351 : Int) := sa
   have q365 : t351 < (t348.length : Int) := sa
   obtain ⟨ad365, e365, hx365_0, hx365_1, hx365_2, hx365_3, hx365_4, hx365_5⟩ := at_T28 (Kd.R_reads' HO350.out).2.2 t351 p365 q365
   cases e365
   replace p365 := eq_true p365
   replace q365 := eq_true q365
   as_aux_lemma =>
    refine start_ (n := 32) (S := fun w' => w'.cell? ⟨gb363, 0, none⟩ = some (.slice Ao104 t353.length co104) ∧ w'.cell? ⟨gb352, 0, none⟩ = some (.slice (some ad365) t348.length co96) ∧ w'.cell? ⟨gb364, 0, none⟩ = some (.int .i64 t356) ∧ w'.cell? ⟨gb364, 1, none⟩ = some (.int .i64 t357) ∧ w'.cell? ⟨gb364, 2, none⟩ = some (.int .i64 t358) ∧ w'.cell? ⟨gb364, 3, none⟩ = some (.int .i64 t359) ∧ w'.cell? ⟨gb364, 4, none⟩ = some (.int .i64 t360) ∧ w'.cell? ⟨gb364, 5, none⟩ = some (.int .i64 t361) ∧ w'.cell? (ad365.add ((t351).toNat * 6)) = some (.int .i64 ((rd_T28 t348 t351).f0)) ∧ w'.cell? ⟨(ad365.add ((t351).toNat * 6)).block, (ad365.add ((t351).toNat * 6)).off + 1, none⟩ = some (.int .i64 ((rd_T28 t348 t351).f1)) ∧ w'.cell? ⟨(ad365.add ((t351).toNat * 6)).block, (ad365.add ((t351).toNat * 6)).off + 2, none⟩ = some (.int .i64 ((rd_T28 t348 t351).f2)) ∧ w'.cell? ⟨(ad365.add ((t351).toNat * 6)).block, (ad365.add ((t351).toNat * 6)).off + 3, none⟩ = some (.int .i64 ((rd_T28 t348 t351).f3)) ∧ w'.cell? ⟨(ad365.add ((t351).toNat * 6)).block, (ad365.add ((t351).toNat * 6)).off + 4, none⟩ = some (.int .i64 ((rd_T28 t348 t351).f4)) ∧ w'.cell? ⟨(ad365.add ((t351).toNat * 6)).block, (ad365.add ((t351).toNat * 6)).off + 5, none⟩ = some (.int .i64 ((rd_T28 t348 t351).f5))) (ds := []) #[false, false, false, false, false, false, false, false, false, false, false, false, false, false, false, false, false, false, false, false, false, false, false, false, false, false, false, false, false, false, false, false] (by kernel_rfl) rfl rfl ⟨bc0 BK363, bc0 BK352, bc0 BK364, bc1 BK364, bc2 BK364, bc3 BK364, bc4 BK364, bc5 BK364, hx365_0, hx365_1, hx365_2, hx365_3, hx365_4, hx365_5⟩ (fun hHeld => ?_); refine with_tabW laws_FnQueues.tab15 laws_FnQueues.bits15 (fun HT_ HW_ => ?_)
    generalize w144.drew = w145 at HO_7 HO_318000 HO_324000 HO350 HO355 BK317 BK318 BK323 BK352 BK363 BK364 HB hx365_0 hx365_1 hx365_2 hx365_3 hx365_4 hx365_5 hHeld ⊢
    refine put 0 156 (bt 32 1) HT_ ?_
    refine put 1 157 (bt 32 3) HT_ ?_
    refine put 2 158 (bt 32 7) HT_ ?_
    refine put 5 161 (bt 32 39) HT_ ?_
    refine take_ (i := 3) (N := some 159) (v := ?_) (a' := ?_) (bt 32 47) rfl rfl (take_ofW HT_.out HW_.out (by kernel_rfl)) (fun _ _ _ h => h) (Or.inl ⟨by rfl, ?_⟩) hHeld ?_ ?_
    rotate_left
    ·rintro w' ⟨s0, s1, s2, s3, s4, s5, s6, s7, s8, s9, s10, s11, s12, s13⟩
     go_simp
     with_reducible rfl
    rotate_left
    ·exact ap
    refine put 4 160 (bt 32 63) HT_ ?_
    refine take_ (i := 6) (N := some 162) (v := ?_) (a' := ?_) (bt 32 127) rfl rfl (take_ofW HT_.out HW_.out (by kernel_rfl)) (fun _ _ _ h => h) (Or.inl ⟨by rfl, ?_⟩) hHeld ?_ ?_
    rotate_left
    ·rintro w' ⟨s0, s1, s2, s3, s4, s5, s6, s7, s8, s9, s10, s11, s12, s13⟩
     go_simp
     with_reducible rfl
    rotate_left
    ·exact ap
    refine put 7 163 (bt 32 255) HT_ ?_
    refine put 8 164 (bt 32 511) HT_ ?_
    refine put 9 165 (bt 32 1023) HT_ ?_
    refine put 10 166 (bt 32 2047) HT_ ?_
    refine put 12 168 (bt 32 6143) HT_ ?_
    refine put 14 170 (bt 32 22527) HT_ ?_
    refine take_ (i := 11) (N := some 167) (v := ?_) (a' := ?_) (bt 32 24575) rfl rfl (take_ofW HT_.out HW_.out (by kernel_rfl)) (fun _ _ _ h => h) (Or.inl ⟨by rfl, ?_⟩) hHeld ?_ ?_
    rotate_left
    ·rintro w' ⟨s0, s1, s2, s3, s4, s5, s6, s7, s8, s9, s10, s11, s12, s13⟩
     go_simp
     with_reducible rfl
    rotate_left
    ·exact ap
    refine take_ (i := 13) (N := some 169) (v := ?_) (a' := ?_) (bt 32 32767) rfl rfl (take_ofW HT_.out HW_.out (by kernel_rfl)) (fun _ _ _ h => h) (Or.inl ⟨by rfl, ?_⟩) hHeld ?_ ?_
    rotate_left
    ·rintro w' ⟨s0, s1, s2, s3, s4, s5, s6, s7, s8, s9, s10, s11, s12, s13⟩
     go_simp
     with_reducible rfl
    rotate_left
    ·exact ap
    refine put 15 171 (bt 32 65535) HT_ ?_
    refine take_ (i := 16) (N := some 172) (v := ?_) (a' := ?_) (bt 32 131071) rfl rfl (take_ofW HT_.out HW_.out (by kernel_rfl)) (fun _ _ _ h => h) (Or.inl ⟨by rfl, ?_⟩) hHeld ?_ ?_
    rotate_left
    ·rintro w' ⟨s0, s1, s2, s3, s4, s5, s6, s7, s8, s9, s10, s11, s12, s13⟩
     go_simp
     with_reducible rfl
    rotate_left
    ·exact ap
    refine put 17 173 (bt 32 262143) HT_ ?_
    refine put 18 174 (bt 32 524287) HT_ ?_
    refine put 19 175 (bt 32 1048575) HT_ ?_
    refine put 21 177 (bt 32 3145727) HT_ ?_
    refine put 25 181 (bt 32 36700159) HT_ ?_
    refine take_ (i := 20) (N := some 176) (v := ?_) (a' := ?_) (bt 32 37748735) rfl rfl (take_ofW HT_.out HW_.out (by kernel_rfl)) (fun _ _ _ h => h) (Or.inl ⟨by rfl, ?_⟩) hHeld ?_ ?_
    rotate_left
    ·rintro w' ⟨s0, s1, s2, s3, s4, s5, s6, s7, s8, s9, s10, s11, s12, s13⟩
     go_simp
     with_reducible rfl
    rotate_left
    ·exact ap
    refine take_ (i := 22) (N := some 178) (v := ?_) (a' := ?_) (bt 32 41943039) rfl rfl (take_ofW HT_.out HW_.out (by kernel_rfl)) (fun _ _ _ h => h) (Or.inl ⟨by rfl, ?_⟩) hHeld ?_ ?_
    rotate_left
    ·rintro w' ⟨s0, s1, s2, s3, s4, s5, s6, s7, s8, s9, s10, s11, s12, s13⟩
     go_simp
     with_reducible rfl
    rotate_left
    ·exact ap
    refine take_ (i := 24) (N := some 180) (v := ?_) (a' := ?_) (bt 32 58720255) rfl rfl (take_ofW HT_.out HW_.out (by kernel_rfl)) (fun _ _ _ h => h) (Or.inl ⟨by rfl, ?_⟩) hHeld ?_ ?_
    rotate_left
    ·rintro w' ⟨s0, s1, s2, s3, s4, s5, s6, s7, s8, s9, s10, s11, s12, s13⟩
     go_simp
     with_reducible rfl
    rotate_left
    ·exact ap
    refine take_ (i := 26) (N := some 182) (v := ?_) (a' := ?_) (bt 32 125829119) rfl rfl (take_ofW HT_.out HW_.out (by kernel_rfl)) (fun _ _ _ h => h) (Or.inl ⟨by rfl, ?_⟩) hHeld ?_ ?_
    rotate_left
    ·rintro w' ⟨s0, s1, s2, s3, s4, s5, s6, s7, s8, s9, s10, s11, s12, s13⟩
     go_simp
     with_reducible rfl
    rotate_left
    ·exact ap
    refine on 23 179 (bt 32 134217727) HT_ (fun K hK => ?_)
    refine goes_ Try.func12 (by kernel_rfl) rfl #[.agg #[.slice Ao104 t353.length co104], .int .i64 t361] (by rfl) rfl rfl sl ?_
    with_reducible refine (impl_CountClass.calls k2 _ _ t353 t361 t366 _ ?side1 ?side2 A118.out).mono ?_
    (case side1 => exact cr HO355)
    (case side2 => exact (Kd.R_reads' HO355.out).2.1)
    rintro e w146 ⟨rfl, hb⟩
    have HS8_ := (hb.cell (World.block_lt_of_cell? _ _ (hHeld.2.2.2.2.2.2.2.2.1))).trans (hHeld.2.2.2.2.2.2.2.2.1)
    have HS9_ := (hb.cell (World.block_lt_of_cell? _ _ (hHeld.2.2.2.2.2.2.2.2.2.1))).trans (hHeld.2.2.2.2.2.2.2.2.2.1)
    have HS10_ := (hb.cell (World.block_lt_of_cell? _ _ (hHeld.2.2.2.2.2.2.2.2.2.2.1))).trans (hHeld.2.2.2.2.2.2.2.2.2.2.1)
    have HS11_ := (hb.cell (World.block_lt_of_cell? _ _ (hHeld.2.2.2.2.2.2.2.2.2.2.2.1))).trans (hHeld.2.2.2.2.2.2.2.2.2.2.2.1)
    have HS12_ := (hb.cell (World.block_lt_of_cell? _ _ (hHeld.2.2.2.2.2.2.2.2.2.2.2.2.1))).trans (hHeld.2.2.2.2.2.2.2.2.2.2.2.2.1)
    have HS13_ := (hb.cell (World.block_lt_of_cell? _ _ (hHeld.2.2.2.2.2.2.2.2.2.2.2.2.2))).trans (hHeld.2.2.2.2.2.2.2.2.2.2.2.2.2)
    refine ⟨_, rfl, ?_⟩
    replace HO_7 := rb HO_7 hb
    replace HO_318000 := rb HO_318000 hb
    replace HO_324000 := rb HO_324000 hb
    replace HO350 := rb HO350 hb
    replace HO355 := rb HO355 hb
    replace BK317 := bb BK317 hb
    replace BK318 := bb BK318 hb
    replace BK323 := bb BK323 hb
    replace BK352 := bb BK352 hb
    replace BK363 := bb BK363 hb
    replace BK364 := bb BK364 hb
    replace HB := bsw hb
    (try clear hb)
    (try clear hb2)
    (try clear hk)
    (try clear hi)
    refine hK.out _ _ ⟨bc0 BK363, bc0 BK352, bc0 BK364, bc1 BK364, bc2 BK364, bc3 BK364, bc4 BK364, bc5 BK364, HS8_, HS9_, HS10_, HS11_, HS12_, HS13_⟩ (fun hHeld => ?_)
    clear hK K
    refine nm 179 ?_
    refine on 27 183 (bt 32 268435455) HT_ (fun K hK => ?_)
    refine goes_ Try.func12 (by kernel_rfl) rfl #[.agg #[.slice (some ad365) t348.length co96], .int .i64 t361] (by rfl) rfl rfl sl ?_
    with_reducible refine (impl_CountClass.calls k2 _ _ t348 t361 t367 _ ?side1 ?side2 A119.out).mono ?_
    (case side1 => exact cr HO350)
    (case side2 => exact (Kd.R_reads' HO350.out).2.1)
    rintro e w147 ⟨rfl, hb⟩
    have HS8_ := (hb.cell (World.block_lt_of_cell? _ _ (hHeld.2.2.2.2.2.2.2.2.1))).trans (hHeld.2.2.2.2.2.2.2.2.1)
    have HS9_ := (hb.cell (World.block_lt_of_cell? _ _ (hHeld.2.2.2.2.2.2.2.2.2.1))).trans (hHeld.2.2.2.2.2.2.2.2.2.1)
    have HS10_ := (hb.cell (World.block_lt_of_cell? _ _ (hHeld.2.2.2.2.2.2.2.2.2.2.1))).trans (hHeld.2.2.2.2.2.2.2.2.2.2.1)
    have HS11_ := (hb.cell (World.block_lt_of_cell? _ _ (hHeld.2.2.2.2.2.2.2.2.2.2.2.1))).trans (hHeld.2.2.2.2.2.2.2.2.2.2.2.1)
    have HS12_ := (hb.cell (World.block_lt_of_cell? _ _ (hHeld.2.2.2.2.2.2.2.2.2.2.2.2.1))).trans (hHeld.2.2.2.2.2.2.2.2.2.2.2.2.1)
    have HS13_ := (hb.cell (World.block_lt_of_cell? _ _ (hHeld.2.2.2.2.2.2.2.2.2.2.2.2.2))).trans (hHeld.2.2.2.2.2.2.2.2.2.2.2.2.2)
    refine ⟨_, rfl, ?_⟩
    replace HO_7 := rb HO_7 hb
    replace HO_318000 := rb HO_318000 hb
    replace HO_324000 := rb HO_324000 hb
    replace HO350 := rb HO350 hb
    replace HO355 := rb HO355 hb
    replace BK317 := bb BK317 hb
    replace BK318 := bb BK318 hb
    replace BK323 := bb BK323 hb
    replace BK352 := bb BK352 hb
    replace BK363 := bb BK363 hb
    replace BK364 := bb BK364 hb
    replace HB := bsw hb
    (try clear hb)
    (try clear hb2)
    (try clear hk)
    (try clear hi)
    refine hK.out _ _ ⟨bc0 BK363, bc0 BK352, bc0 BK364, bc1 BK364, bc2 BK364, bc3 BK364, bc4 BK364, bc5 BK364, HS8_, HS9_, HS10_, HS11_, HS12_, HS13_⟩ (fun hHeld => ?_)
    clear hK K
    refine nm 183 ?_
    refine put 28 184 (bt 32 536870911) HT_ ?_
    refine put 29 185 (bt 32 1073741823) HT_ ?_
    refine put 30 186 (bt 32 2147483647) HT_ ?_
    refine put 31 187 (bt 32 4294967295) HT_ ?_
    refine done_ (done_of HT_.out (by kernel_rfl)) ?_
    have hnb148 := NB323_317.out
    have hnc148 := NB317_323.out
    have hnb149 := NB323_318.out
    have hnc149 := NB318_323.out
    obtain ⟨hcz150_0, hfz150_0⟩ := cc1 BK323
    try go_wp2
    go_ret
    exact ⟨se, sbw⟩
 | have n0_ : Aside0 (Kd.R (Kd.int .i64) 3 (((((((w103.setCell ⟨gb363, 0, none⟩ (.slice Ao104 t353.length co104)).setCell ⟨gb364, 0, none⟩ (.int .i64 t356)).setCell ⟨gb364, 1, none⟩ (.int .i64 t357)).setCell ⟨gb364, 2, none⟩ (.int .i64 t358)).setCell ⟨gb364, 3, none⟩ (.int .i64 t359)).setCell ⟨gb364, 4, none⟩ (.int .i64 t360)).setCell ⟨gb364, 5, none⟩ (.int .i64 t361)) w.heap.size (fun _ => True) (.slice Ao93 t325.length co93) t325) := ⟨a5_10⟩
   have n1_ : Aside0 (Kd.R k28 28 (((((((w103.setCell ⟨gb363, 0, none⟩ (.slice Ao104 t353.length co104)).setCell ⟨gb364, 0, none⟩ (.int .i64 t356)).setCell ⟨gb364, 1, none⟩ (.int .i64 t357)).setCell ⟨gb364, 2, none⟩ (.int .i64 t358)).setCell ⟨gb364, 3, none⟩ (.int .i64 t359)).setCell ⟨gb364, 4, none⟩ (.int .i64 t360)).setCell ⟨gb364, 5, none⟩ (.int .i64 t361)) w.heap.size (fun k_ => some k_ ≠ (.slice Ao16 t319.length co16 : Value).ownBlock ∧ some k_ ≠ (.slice Ao96 t348.length co96 : Value).ownBlock ∧ some k_ ≠ (.slice Ao104 t353.length co104 : Value).ownBlock ∧ k_ ≠ gb318 ∧ k_ ≠ gb364) (.slice Ao10 t308.length co10) t308) := ⟨a5_2⟩
   have n2_ : Aside0 (Kd.R k28 28 (((((((w103.setCell ⟨gb363, 0, none⟩ (.slice Ao104 t353.length co104)).setCell ⟨gb364, 0, none⟩ (.int .i64 t356)).setCell ⟨gb364, 1, none⟩ (.int .i64 t357)).setCell ⟨gb364, 2, none⟩ (.int .i64 t358)).setCell ⟨gb364, 3, none⟩ (.int .i64 t359)).setCell ⟨gb364, 4, none⟩ (.int .i64 t360)).setCell ⟨gb364, 5, none⟩ (.int .i64 t361)) w.heap.size (fun k_ => some k_ ≠ (.slice Ao10 t308.length co10 : Value).ownBlock ∧ some k_ ≠ (.slice Ao96 t348.length co96 : Value).ownBlock ∧ some k_ ≠ (.slice Ao104 t353.length co104 : Value).ownBlock ∧ k_ ≠ gb318 ∧ k_ ≠ gb364) (.slice Ao16 t319.length co16) t319) := ⟨a5_3⟩
   have n3_ : Aside0 (Kd.R k28 28 (((((((w103.setCell ⟨gb363, 0, none⟩ (.slice Ao104 t353.length co104)).setCell ⟨gb364, 0, none⟩ (.int .i64 t356)).setCell ⟨gb364, 1, none⟩ (.int .i64 t357)).setCell ⟨gb364, 2, none⟩ (.int .i64 t358)).setCell ⟨gb364, 3, none⟩ (.int .i64 t359)).setCell ⟨gb364, 4, none⟩ (.int .i64 t360)).setCell ⟨gb364, 5, none⟩ (.int .i64 t361)) w.heap.size (fun k_ => some k_ ≠ (.slice Ao10 t308.length co10 : Value).ownBlock ∧ some k_ ≠ (.slice Ao16 t319.length co16 : Value).ownBlock ∧ some k_ ≠ (.slice Ao104 t353.length co104 : Value).ownBlock ∧ k_ ≠ gb318 ∧ k_ ≠ gb364) (.slice Ao96 t348.length co96) t348) := ⟨a5_4⟩
   have n4_ : Aside0 (Kd.R k28 28 (((((((w103.setCell ⟨gb363, 0, none⟩ (.slice Ao104 t353.length co104)).setCell ⟨gb364, 0, none⟩ (.int .i64 t356)).setCell ⟨gb364, 1, none⟩ (.int .i64 t357)).setCell ⟨gb364, 2, none⟩ (.int .i64 t358)).setCell ⟨gb364, 3, none⟩ (.int .i64 t359)).setCell ⟨gb364, 4, none⟩ (.int .i64 t360)).setCell ⟨gb364, 5, none⟩ (.int .i64 t361)) w.heap.size (fun k_ => some k_ ≠ (.slice Ao10 t308.length co10 : Value).ownBlock ∧ some k_ ≠ (.slice Ao16 t319.length co16 : Value).ownBlock ∧ some k_ ≠ (.slice Ao96 t348.length co96 : Value).ownBlock ∧ k_ ≠ gb318 ∧ k_ ≠ gb364) (.slice Ao104 t353.length co104) t353) := ⟨a5_5⟩
   have n5_ : Aside0 ((((((((w103.setCell ⟨gb363, 0, none⟩ (.slice Ao104 t353.length co104)).setCell ⟨gb364, 0, none⟩ (.int .i64 t356)).setCell ⟨gb364, 1, none⟩ (.int .i64 t357)).setCell ⟨gb364, 2, none⟩ (.int .i64 t358)).setCell ⟨gb364, 3, none⟩ (.int .i64 t359)).setCell ⟨gb364, 4, none⟩ (.int .i64 t360)).setCell ⟨gb364, 5, none⟩ (.int .i64 t361)).heap[gb317]? = some (.cells #[.slice Ao10 t308.length co10] 26 (0, 0))) := ⟨sp BK317⟩
   have n6_ : Aside0 ((((((((w103.setCell ⟨gb363, 0, none⟩ (.slice Ao104 t353.length co104)).setCell ⟨gb364, 0, none⟩ (.int .i64 t356)).setCell ⟨gb364, 1, none⟩ (.int .i64 t357)).setCell ⟨gb364, 2, none⟩ (.int .i64 t358)).setCell ⟨gb364, 3, none⟩ (.int .i64 t359)).setCell ⟨gb364, 4, none⟩ (.int .i64 t360)).setCell ⟨gb364, 5, none⟩ (.int .i64 t361)).heap[gb318]? = some (.cells #[.int .i64 t311, .int .i64 t312, .int .i64 t313, .int .i64 t314, .int .i64 t315, .int .i64 t316] 28 (0, 0))) := ⟨sp BK318⟩
   have n7_ : Aside0 ((((((((w103.setCell ⟨gb363, 0, none⟩ (.slice Ao104 t353.length co104)).setCell ⟨gb364, 0, none⟩ (.int .i64 t356)).setCell ⟨gb364, 1, none⟩ (.int .i64 t357)).setCell ⟨gb364, 2, none⟩ (.int .i64 t358)).setCell ⟨gb364, 3, none⟩ (.int .i64 t359)).setCell ⟨gb364, 4, none⟩ (.int .i64 t360)).setCell ⟨gb364, 5, none⟩ (.int .i64 t361)).heap[gb323]? = some (.cells #[.slice Ao16 t319.length co16] 26 (0, 0))) := ⟨sp BK323⟩
   have n8_ : Aside0 ((((((((w103.setCell ⟨gb363, 0, none⟩ (.slice Ao104 t353.length co104)).setCell ⟨gb364, 0, none⟩ (.int .i64 t356)).setCell ⟨gb364, 1, none⟩ (.int .i64 t357)).setCell ⟨gb364, 2, none⟩ (.int .i64 t358)).setCell ⟨gb364, 3, none⟩ (.int .i64 t359)).setCell ⟨gb364, 4, none⟩ (.int .i64 t360)).setCell ⟨gb364, 5, none⟩ (.int .i64 t361)).heap[gb352]? = some (.cells #[.slice Ao96 t348.length co96] 26 (0, 0))) := ⟨sp BK352⟩
   have n9_ : Aside0 ((((((((w103.setCell ⟨gb363, 0, none⟩ (.slice Ao104 t353.length co104)).setCell ⟨gb364, 0, none⟩ (.int .i64 t356)).setCell ⟨gb364, 1, none⟩ (.int .i64 t357)).setCell ⟨gb364, 2, none⟩ (.int .i64 t358)).setCell ⟨gb364, 3, none⟩ (.int .i64 t359)).setCell ⟨gb364, 4, none⟩ (.int .i64 t360)).setCell ⟨gb364, 5, none⟩ (.int .i64 t361)).heap[gb363]? = some (.cells #[.slice Ao104 t353.length co104] 26 (0, 0))) := ⟨sp BK363⟩
   have n10_ : Aside0 ((((((((w103.setCell ⟨gb363, 0, none⟩ (.slice Ao104 t353.length co104)).setCell ⟨gb364, 0, none⟩ (.int .i64 t356)).setCell ⟨gb364, 1, none⟩ (.int .i64 t357)).setCell ⟨gb364, 2, none⟩ (.int .i64 t358)).setCell ⟨gb364, 3, none⟩ (.int .i64 t359)).setCell ⟨gb364, 4, none⟩ (.int .i64 t360)).setCell ⟨gb364, 5, none⟩ (.int .i64 t361)).heap[gb364]? = some (.cells #[.int .i64 t356, .int .i64 t357, .int .i64 t358, .int .i64 t359, .int .i64 t360, .int .i64 t361] 28 (0, 0))) := ⟨sp BK364⟩
   have n11_ : Aside0 (Below w.heap.size w (((((((w103.setCell ⟨gb363, 0, none⟩ (.slice Ao104 t353.length co104)).setCell ⟨gb364, 0, none⟩ (.int .i64 t356)).setCell ⟨gb364, 1, none⟩ (.int .i64 t357)).setCell ⟨gb364, 2, none⟩ (.int .i64 t358)).setCell ⟨gb364, 3, none⟩ (.int .i64 t359)).setCell ⟨gb364, 4, none⟩ (.int .i64 t360)).setCell ⟨gb364, 5, none⟩ (.int .i64 t361))) := ⟨sbw⟩
   (try clear HO_7)
   (try clear HO_318000)
   (try clear HO_324000)
   (try clear HO350)
   (try clear HO355)
   (try clear BK317)
   (try clear BK318)
   (try clear BK323)
   (try clear BK352)
   (try clear BK363)
   (try clear BK364)
   (try clear HB)
   generalize (((((((w103.setCell ⟨gb363, 0, none⟩ (.slice Ao104 t353.length co104)).setCell ⟨gb364, 0, none⟩ (.int .i64 t356)).setCell ⟨gb364, 1, none⟩ (.int .i64 t357)).setCell ⟨gb364, 2, none⟩ (.int .i64 t358)).setCell ⟨gb364, 3, none⟩ (.int .i64 t359)).setCell ⟨gb364, 4, none⟩ (.int .i64 t360)).setCell ⟨gb364, 5, none⟩ (.int .i64 t361)) = w116 at n0_ n1_ n2_ n3_ n4_ n5_ n6_ n7_ n8_ n9_ n10_ n11_ ⊢
   have HO_7 := n0_
   have HO_318000 := n1_
   have HO_324000 := n2_
   have HO350 := n3_
   have HO355 := n4_
   have BK317 := n5_
   have BK318 := n6_
   have BK323 := n7_
   have BK352 := n8_
   have BK363 := n9_
   have BK364 := n10_
   have HB := n11_
   clear n0_ n1_ n2_ n3_ n4_ n5_ n6_ n7_ n8_ n9_ n10_ n11_
   replace HO_7 := am (Kd.R_drew HO_7.out)
   replace HO_318000 := am (Kd.R_drew HO_318000.out)
   replace HO_324000 := am (Kd.R_drew HO_324000.out)
   replace HO350 := am (Kd.R_drew HO350.out)
   replace HO355 := am (Kd.R_drew HO355.out)
   replace BK317 := am (blk_drew BK317.out)
   replace BK318 := am (blk_drew BK318.out)
   replace BK323 := am (blk_drew BK323.out)
   replace BK352 := am (blk_drew BK352.out)
   replace BK363 := am (blk_drew BK363.out)
   replace BK364 := am (blk_drew BK364.out)
   replace HB := am (below_drew1 HB.out)
   have p365 : 0 ≤ (t351 : Int) := sa
   have q365 : t351 < (t348.length : Int) := sa
   obtain ⟨ad365, e365, hx365_0, hx365_1, hx365_2, hx365_3, hx365_4, hx365_5⟩ := at_T28 (Kd.R_reads' HO350.out).2.2 t351 p365 q365
   cases e365
   replace p365 := eq_true p365
   replace q365 := eq_true q365
   as_aux_lemma =>
    refine start_ (n := 32) (S := fun w' => w'.cell? ⟨gb363, 0, none⟩ = some (.slice Ao104 t353.length co104) ∧ w'.cell? ⟨gb352, 0, none⟩ = some (.slice (some ad365) t348.length co96) ∧ w'.cell? ⟨gb364, 0, none⟩ = some (.int .i64 t356) ∧ w'.cell? ⟨gb364, 1, none⟩ = some (.int .i64 t357) ∧ w'.cell? ⟨gb364, 2, none⟩ = some (.int .i64 t358) ∧ w'.cell? ⟨gb364, 3, none⟩ = some (.int .i64 t359) ∧ w'.cell? ⟨gb364, 4, none⟩ = some (.int .i64 t360) ∧ w'.cell? ⟨gb364, 5, none⟩ = some (.int .i64 t361) ∧ w'.cell? (ad365.add ((t351).toNat * 6)) = some (.int .i64 ((rd_T28 t348 t351).f0)) ∧ w'.cell? ⟨(ad365.add ((t351).toNat * 6)).block, (ad365.add ((t351).toNat * 6)).off + 1, none⟩ = some (.int .i64 ((rd_T28 t348 t351).f1)) ∧ w'.cell? ⟨(ad365.add ((t351).toNat * 6)).block, (ad365.add ((t351).toNat * 6)).off + 2, none⟩ = some (.int .i64 ((rd_T28 t348 t351).f2)) ∧ w'.cell? ⟨(ad365.add ((t351).toNat * 6)).block, (ad365.add ((t351).toNat * 6)).off + 3, none⟩ = some (.int .i64 ((rd_T28 t348 t351).f3)) ∧ w'.cell? ⟨(ad365.add ((t351).toNat * 6)).block, (ad365.add ((t351).toNat * 6)).off + 4, none⟩ = some (.int .i64 ((rd_T28 t348 t351).f4)) ∧ w'.cell? ⟨(ad365.add ((t351).toNat * 6)).block, (ad365.add ((t351).toNat * 6)).off + 5, none⟩ = some (.int .i64 ((rd_T28 t348 t351).f5))) (ds := []) #[false, false, false, false, false, false, false, false, false, false, false, false, false, false, false, false, false, false, false, false, false, false, false, false, false, false, false, false, false, false, false, false] (by kernel_rfl) rfl rfl ⟨bc0 BK363, bc0 BK352, bc0 BK364, bc1 BK364, bc2 BK364, bc3 BK364, bc4 BK364, bc5 BK364, hx365_0, hx365_1, hx365_2, hx365_3, hx365_4, hx365_5⟩ (fun hHeld => ?_); refine with_tabW laws_FnQueues.tab15 laws_FnQueues.bits15 (fun HT_ HW_ => ?_)
    generalize w116.drew = w117 at HO_7 HO_318000 HO_324000 HO350 HO355 BK317 BK318 BK323 BK352 BK363 BK364 HB hx365_0 hx365_1 hx365_2 hx365_3 hx365_4 hx365_5 hHeld ⊢
    refine put 0 156 (bt 32 1) HT_ ?_
    refine put 1 157 (bt 32 3) HT_ ?_
    refine put 2 158 (bt 32 7) HT_ ?_
    refine put 5 161 (bt 32 39) HT_ ?_
    refine take_ (i := 3) (N := some 159) (v := ?_) (a' := ?_) (bt 32 47) rfl rfl (take_ofW HT_.out HW_.out (by kernel_rfl)) (fun _ _ _ h => h) (Or.inl ⟨by rfl, ?_⟩) hHeld ?_ ?_
    rotate_left
    ·rintro w' ⟨s0, s1, s2, s3, s4, s5, s6, s7, s8, s9, s10, s11, s12, s13⟩
     go_simp
     with_reducible rfl
    rotate_left
    ·exact ap
    refine put 4 160 (bt 32 63) HT_ ?_
    refine take_ (i := 6) (N := some 162) (v := ?_) (a' := ?_) (bt 32 127) rfl rfl (take_ofW HT_.out HW_.out (by kernel_rfl)) (fun _ _ _ h => h) (Or.inl ⟨by rfl, ?_⟩) hHeld ?_ ?_
    rotate_left
    ·rintro w' ⟨s0, s1, s2, s3, s4, s5, s6, s7, s8, s9, s10, s11, s12, s13⟩
     go_simp
     with_reducible rfl
    rotate_left
    ·exact ap
    refine put 7 163 (bt 32 255) HT_ ?_
    refine put 8 164 (bt 32 511) HT_ ?_
    refine put 9 165 (bt 32 1023) HT_ ?_
    refine put 10 166 (bt 32 2047) HT_ ?_
    refine put 12 168 (bt 32 6143) HT_ ?_
    refine put 14 170 (bt 32 22527) HT_ ?_
    refine take_ (i := 11) (N := some 167) (v := ?_) (a' := ?_) (bt 32 24575) rfl rfl (take_ofW HT_.out HW_.out (by kernel_rfl)) (fun _ _ _ h => h) (Or.inl ⟨by rfl, ?_⟩) hHeld ?_ ?_
    rotate_left
    ·rintro w' ⟨s0, s1, s2, s3, s4, s5, s6, s7, s8, s9, s10, s11, s12, s13⟩
     go_simp
     with_reducible rfl
    rotate_left
    ·exact ap
    refine take_ (i := 13) (N := some 169) (v := ?_) (a' := ?_) (bt 32 32767) rfl rfl (take_ofW HT_.out HW_.out (by kernel_rfl)) (fun _ _ _ h => h) (Or.inl ⟨by rfl, ?_⟩) hHeld ?_ ?_
    rotate_left
    ·rintro w' ⟨s0, s1, s2, s3, s4, s5, s6, s7, s8, s9, s10, s11, s12, s13⟩
     go_simp
     with_reducible rfl
    rotate_left
    ·exact ap
    refine put 15 171 (bt 32 65535) HT_ ?_
    refine take_ (i := 16) (N := some 172) (v := ?_) (a' := ?_) (bt 32 131071) rfl rfl (take_ofW HT_.out HW_.out (by kernel_rfl)) (fun _ _ _ h => h) (Or.inl ⟨by rfl, ?_⟩) hHeld ?_ ?_
    rotate_left
    ·rintro w' ⟨s0, s1, s2, s3, s4, s5, s6, s7, s8, s9, s10, s11, s12, s13⟩
     go_simp
     with_reducible rfl
    rotate_left
    ·exact ap
    refine put 17 173 (bt 32 262143) HT_ ?_
    refine put 18 174 (bt 32 524287) HT_ ?_
    refine put 19 175 (bt 32 1048575) HT_ ?_
    refine pn 20 176 (bt 32 2097151) HT_ ?_
    refine pn 21 177 (bt 32 4194303) HT_ ?_
    refine pn 22 178 (bt 32 8388607) HT_ ?_
    refine pn 23 179 (bt 32 16777215) HT_ ?_
    refine pn 24 180 (bt 32 33554431) HT_ ?_
    refine pn 25 181 (bt 32 67108863) HT_ ?_
    refine pn 26 182 (bt 32 134217727) HT_ ?_
    refine pn 27 183 (bt 32 268435455) HT_ ?_
    refine pn 28 184 (bt 32 536870911) HT_ ?_
    refine pn 29 185 (bt 32 1073741823) HT_ ?_
    refine put 30 186 (bt 32 2147483647) HT_ ?_
    refine put 31 187 (bt 32 4294967295) HT_ ?_
    refine done_ (done_of HT_.out (by kernel_rfl)) ?_
    try go_wp2
    go_ret
    exact ⟨se, sbw⟩) : P := h
end Go.Proofs.Yticepodaobpdlaa.QFnQueues
