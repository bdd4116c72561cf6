/- The walk of slices.stableCmpFunc at a row of elements of one cell: a stable sort. Conditions: none. -/
import Derived.Test.YthnlkgbhohchoaaGreatVFnExactRepairedAtStw
import Derived.Test.YthnlkgbhohchoaaGreatVFnExactRepairedAtShelf
namespace Go.Proofs.YthnlkgbhohchoaaGreat.Stw
open Go.Proofs Go.Shelf Go.RowKit Go.Lib Go.Sort Stb
variable {α : Type} [Inhabited α]
theorem dvs {q x y : Nat} (h1 : q ∣ x) (h2 : q ∣ y) (h : x < y) : x + q ≤ y := by
  have := Nat.le_of_dvd (by omega) (Nat.dvd_sub h2 h1)
  omega
theorem dv2 {s q a : Nat} (hq : q = s + s) (h : q ∣ a) : s ∣ a := Nat.dvd_trans ⟨2, by omega⟩ h
set_option maxHeartbeats 8000000 in
set_option maxRecDepth 1000000 in
/-- slices.stableCmpFunc at elements of one cell. -/
theorem stable (enc : α → Value) (cf : α → α → Int) (key : α → Int) (hk : ∀ x y, cf x y < 0 ↔ key x < key y) (g : Nat) (cb : Array Value) (blk off cap : Nat) (d0 : Array α) (w0 : World)
    (eg : ∀ args w, (callFunc g args).run Tryz.prog w = .ok (.enter g args) w) (hcmp : CmpLays1 Tryz.prog g cb enc cf blk off d0.size w0) (R : Row1 enc w0 blk off d0)
    (d : Array α) (w : World) (hs : d0.size = d.size) (S : SW enc w0 blk off d w) (hsz : d.size < 4611686018427387904) :
    Calls Tryz.prog 91 #[.slice (some ⟨blk, off, none⟩) d.size cap, .int .i64 d.size, .func (.func g) #[] cb] w fun e w' => e = .returned (.tuple #[]) ∧ ∃ d', SW enc w0 blk off d' w' ∧ Ch key 0 d.size d.toList d'.toList ∧ So key 0 d.size d'.toList := by
  have hlt : ∀ x y, ltOf cf x y = decide (key x < key y) := fun x y => decide_eq_decide.2 (hk x y)
  have IN : Aside _ := fun (a b : Nat) (dk : Array α) (W : World) (h1 : d0.size = dk.size) (h2 : SW enc w0 blk off dk W) (h3 : a ≤ b) (h4 : b ≤ dk.size) => Tryz.insertionSortCmpFunc_s enc cf g cb blk off cap a b d0 dk w0 W eg hcmp R h1 h2 h3 h4 (by omega)
  have LW : Aside _ := fun (a b : Nat) (dk : Array α) (h : b ≤ dk.size) => ins_law (key := key) hlt a b dk h
  have MG : Aside _ := merge enc cf key hk g cb blk off cap d0 w0 eg hcmp R (by omega)
  have S0 : Aside (SW enc w0 blk off d w) := S
  obtain ⟨n, hn⟩ : ∃ n, n = d.size := ⟨_, rfl⟩
  have HN : Aside _ := hn
  rw [← hn] at hsz
  rw [← hn]
  have hs' : d0.size = n := by omega
  clear S hcmp hk hlt hn hs
  go_enter Tryz.func91, Tryz.ntmps91
  go_wp2
  go_loopg [7, 8] n (fun kx v7 v8 wr => ∃ (a : Nat) (dk : Array α), v7 = .int .i64 a ∧ v8 = .int .i64 ((a + 20 : Nat) : Int) ∧ 20 ∣ a ∧ a ≤ n ∧ n - a ≤ kx ∧ dk.size = n ∧ Aside (SW enc w0 blk off dk wr) ∧ Aside (Ch key 0 n d.toList dk.toList) ∧ Aside (∀ x, 20 ∣ x → x < a → So key x (x + 20) dk.toList))
  case atStart => exact ⟨0, d, rfl, rfl, ⟨0, rfl⟩, by omega, by omega, HN.out.symm, S0, Ch.refl _ _ _ _, fun x _ h => by omega⟩
  case round =>
    clear S0
    obtain ⟨a, dk, rfl, rfl, hda, han, hkx, hds, S1, HC, HB⟩ := hrel
    have HDA : Aside _ := hda
    clear hda
    by_cases hlt : a + 20 ≤ n
    · have hlz : (a : Int) + 20 ≤ (n : Int) := by omega
      have hd : decide ((a : Int) + 20 ≤ (n : Int)) = true := decide_eq_true hlz
      have hw : IntKind.i64.wrap ((a : Int) + 20 + 20) = (a : Int) + 20 + 20 := by rw [IntKind.wrap_i64]; omega
      have hin := IN.out a (a + 20) dk wr (by omega) S1.out (by omega) (by omega)
      rw [hds] at hin
      have hl := LW.out a (a + 20) dk (by omega)
      have HL : Aside _ := hl
      clear hl
      go_wp2_with (go_at_call 130; refine hin.mono ?_; rintro e w1 ⟨rfl, S2⟩)
      go_roundg (n - (a + 20))
      case measure => omega
      case rel =>
        refine ⟨a + 20, Go.Sort.insertionSort (ltOf cf) dk a (a + 20), by first | rfl | (with_reducible go_num) | (congr 1; omega), by first | rfl | (with_reducible go_num) | (congr 1; omega), Nat.dvd_add HDA.out ⟨1, rfl⟩, hlt, Nat.le_refl _, by rw [HL.out.1.size]; exact hds, S2, HC.out.trans (HL.out.1.wide (by omega) (by omega)), fun x hx hxa => ?_⟩
        by_cases c : x < a
        · have := dvs hx HDA.out c
          exact (HB.out x hx c).out HL.out.1 (.inl this)
        · by_cases c2 : x = a
          · subst c2; exact HL.out.2
          · have := dvs HDA.out hx (by omega)
            omega
    · have hlz : ¬ (a : Int) + 20 ≤ (n : Int) := by omega
      have hd : decide ((a : Int) + 20 ≤ (n : Int)) = false := decide_eq_false hlz
      have hin := IN.out a n dk wr (by omega) S1.out (by omega) (by omega)
      rw [hds] at hin
      have hl := LW.out a n dk (by omega)
      have HL : Aside _ := hl
      clear hl
      have hbl : ∀ x, 20 ∣ x → So key x (min (x + 20) n) (Go.Sort.insertionSort (ltOf cf) dk a n).toList := fun x hx => by
        by_cases c : x < a
        · have := dvs hx HDA.out c
          exact ((HB.out x hx c).out HL.out.1 (.inl this)).sub (Nat.le_refl _) (by omega)
        · by_cases c2 : x = a
          · subst c2
            exact HL.out.2.sub (Nat.le_refl _) (by omega)
          · have := dvs HDA.out hx (by omega)
            exact So.one key _ _ _ (by omega)
      have BL : Aside _ := hbl
      have hd1 : (Go.Sort.insertionSort (ltOf cf) dk a n).size = n := HL.out.1.size.trans hds
      have hc1 : Ch key 0 n d.toList (Go.Sort.insertionSort (ltOf cf) dk a n).toList := HC.out.trans (HL.out.1.wide (by omega) (by omega))
      have HC1 : Aside _ := hc1
      clear hbl hc1 HL HB HC
      generalize Go.Sort.insertionSort (ltOf cf) dk a n = d1 at hin BL hd1 HC1
      go_wp2_with (go_at_call 130; refine hin.mono ?_; rintro e w1 ⟨rfl, S2⟩)
      clear S1
      go_loopg [6] n (fun kx v6 wr => ∃ (s : Nat) (dk : Array α), v6 = .int .i64 s ∧ 0 < s ∧ n - s ≤ kx ∧ s < 9223372036854775807 ∧ dk.size = n ∧ Aside (SW enc w0 blk off dk wr) ∧ Aside (Ch key 0 n d.toList dk.toList) ∧ Aside (∀ x, s ∣ x → So key x (min (x + s) n) dk.toList))
      case atStart => exact ⟨20, d1, rfl, by omega, by omega, by omega, hd1, S2, HC1, BL⟩
      case round => as_aux_lemma =>
        clear S2 HC1 BL hd1 hin
        obtain ⟨s, dk, rfl, hs0, hkx, hsb, hds, S1, HC, HB⟩ := hrel
        by_cases hlt : s < n
        · have hlz : (s : Int) < (n : Int) := by omega
          have hd : decide ((s : Int) < (n : Int)) = true := decide_eq_true hlz
          obtain ⟨q, hq⟩ : ∃ q, q = s + s := ⟨_, rfl⟩
          have hw1 : IntKind.i64.wrap (2 * (s : Int)) = (q : Int) := by rw [IntKind.wrap_i64]; omega
          have hw2 : IntKind.i64.wrap ((s : Int) * 2) = (q : Int) := by rw [IntKind.wrap_i64]; omega
          have HQ : Aside _ := hq
          clear hq
          go_wp2
          go_loopg [7, 8] n (fun kx v7 v8 wr => ∃ (a : Nat) (dj : Array α), v7 = .int .i64 a ∧ v8 = .int .i64 ((a + q : Nat) : Int) ∧ a ≤ n ∧ n - a ≤ kx ∧ dj.size = n ∧ Aside (q ∣ a) ∧ Aside (SW enc w0 blk off dj wr) ∧ Aside (Ch key 0 n d.toList dj.toList) ∧ Aside (∀ x, q ∣ x → x < a → So key x (x + q) dj.toList) ∧ Aside (∀ x, s ∣ x → a ≤ x → So key x (min (x + s) n) dj.toList))
          case atStart => exact ⟨0, dk, rfl, by first | rfl | (with_reducible go_num) | (congr 1; omega), by omega, by omega, hds, ⟨0, rfl⟩, S1, HC, fun x _ h => by omega, fun x h _ => HB.out x h⟩
          case round => as_aux_lemma =>
            clear S1 HC HB hds
            obtain ⟨a, dj, rfl, rfl, han, hkx2, hds, HDA, S1, HC, HB, HR⟩ := hrel
            by_cases hlt2 : a + q ≤ n
            · have hlz2 : (a : Int) + (q : Int) ≤ (n : Int) := by omega
              have hd2 : decide ((a : Int) + (q : Int) ≤ (n : Int)) = true := decide_eq_true hlz2
              have hw3 : IntKind.i64.wrap ((a : Int) + (s : Int)) = ((a + s : Nat) : Int) := by rw [IntKind.wrap_i64]; omega
              have hw4 : IntKind.i64.wrap ((a : Int) + (q : Int) + (q : Int)) = (a : Int) + (q : Int) + (q : Int) := by have := HQ.out; rw [IntKind.wrap_i64]; omega
              have hmg := MG.out (a + q - a) a (a + s) (a + q) dj wr (by omega) (by omega) S1.out (by omega) (by have := HQ.out; omega) (by omega)
                ((HR.out a (dv2 HQ.out HDA.out) (Nat.le_refl _)).sub (Nat.le_refl _) (by have := HQ.out; omega))
                ((HR.out (a + s) (Nat.dvd_add (dv2 HQ.out HDA.out) (Nat.dvd_refl _)) (by omega)).sub (Nat.le_refl _) (by have := HQ.out; omega))
              rw [hds] at hmg
              go_wp2_with (go_at_call 131; refine hmg.mono ?_; rintro e w1 ⟨rfl, d2, S2, HC2, HS2⟩)
              go_roundg (n - (a + q))
              case measure => have := HQ.out; omega
              case rel =>
                refine ⟨a + q, d2, by first | rfl | (with_reducible go_num) | (congr 1; omega), by first | rfl | (with_reducible go_num) | (congr 1; omega), hlt2, Nat.le_refl _, by rw [HC2.size]; exact hds, Nat.dvd_add HDA.out (Nat.dvd_refl _), S2, HC.out.trans (HC2.wide (by omega) (by omega)), fun x hx hxa => ?_, fun x hx hxa => (HR.out x hx (by omega)).out HC2 (.inr hxa)⟩
                by_cases c : x < a
                · have := dvs hx HDA.out c
                  exact (HB.out x hx c).out HC2 (.inl this)
                · by_cases c2 : x = a
                  · subst c2; exact HS2
                  · have := dvs HDA.out hx (by omega)
                    omega
            · have hlz2 : ¬ (a : Int) + (q : Int) ≤ (n : Int) := by omega
              have hd2 : decide ((a : Int) + (q : Int) ≤ (n : Int)) = false := decide_eq_false hlz2
              have hw3 : IntKind.i64.wrap ((a : Int) + (s : Int)) = ((a + s : Nat) : Int) := by rw [IntKind.wrap_i64]; omega
              have hend : ∀ d2 : Array α, d2.size = n → Ch key a n dj.toList d2.toList → So key a n d2.toList → ∀ x, q ∣ x → So key x (min (x + q) n) d2.toList := fun d2 h1 h2 h3 x hx => by
                by_cases c : x < a
                · have := dvs hx HDA.out c
                  exact ((HB.out x hx c).out h2 (.inl this)).sub (Nat.le_refl _) (by omega)
                · by_cases c2 : x = a
                  · subst c2; exact h3.sub (Nat.le_refl _) (by omega)
                  · have := dvs HDA.out hx (by omega)
                    exact So.one key _ _ _ (by omega)
              have HE : Aside _ := hend
              clear hend
              by_cases hlt3 : a + s < n
              · have hlz3 : ((a + s : Nat) : Int) < (n : Int) := by omega
                have hd3 : decide (((a + s : Nat) : Int) < (n : Int)) = true := decide_eq_true hlz3
                have hlz4 : (a : Int) + (s : Int) < (n : Int) := by omega
                have hmg := MG.out (n - a) a (a + s) n dj wr (by omega) (by omega) S1.out (by omega) hlt3 (by omega)
                  ((HR.out a (dv2 HQ.out HDA.out) (Nat.le_refl _)).sub (Nat.le_refl _) (by omega))
                  ((HR.out (a + s) (Nat.dvd_add (dv2 HQ.out HDA.out) (Nat.dvd_refl _)) (by omega)).sub (Nat.le_refl _) (by have := HQ.out; omega))
                rw [hds] at hmg
                go_wp2_with (go_at_call 131; refine hmg.mono ?_; rintro e w1 ⟨rfl, d2, S2, HC2, HS2⟩)
                go_roundg (n - q)
                case measure => have := HQ.out; omega
                case rel => exact ⟨q, d2, rfl, by have := HQ.out; omega, Nat.le_refl _, by have := HQ.out; omega, by rw [HC2.size]; exact hds, S2, HC.out.trans (HC2.wide (by omega) (by omega)), HE.out d2 (by rw [HC2.size]; exact hds) HC2 HS2⟩
              · have hlz3 : ¬ ((a + s : Nat) : Int) < (n : Int) := by omega
                have hd3 : decide (((a + s : Nat) : Int) < (n : Int)) = false := decide_eq_false hlz3
                have hlz4 : ¬ (a : Int) + (s : Int) < (n : Int) := by omega
                have hs3 : So key a n dj.toList := (HR.out a (dv2 HQ.out HDA.out) (Nat.le_refl _)).sub (Nat.le_refl _) (by omega)
                have HS3 : Aside _ := hs3
                clear hs3
                go_wp2
                go_roundg (n - q)
                case measure => have := HQ.out; omega
                case rel => exact ⟨q, dj, rfl, by have := HQ.out; omega, Nat.le_refl _, by have := HQ.out; omega, hds, S1, HC, HE.out dj hds (Ch.refl _ _ _ _) HS3.out⟩
        · have hlz : ¬ (s : Int) < (n : Int) := by omega
          have hd : decide ((s : Int) < (n : Int)) = false := decide_eq_false hlz
          go_wp2
          go_end0
          exact ⟨rfl, dk, S1.out, HC.out, (HB.out 0 ⟨0, rfl⟩).sub (Nat.le_refl _) (by omega)⟩
end Go.Proofs.YthnlkgbhohchoaaGreat.Stw
