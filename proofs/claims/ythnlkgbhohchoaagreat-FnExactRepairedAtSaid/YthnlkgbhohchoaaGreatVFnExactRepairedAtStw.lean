/- Walks of slices.swapRangeCmpFunc, rotateCmpFunc and symMergeCmpFunc at a row of elements of one cell. Conditions: none. -/
import Derived.Test.YthnlkgbhohchoaaGreatProg
import Derived.Test.YthnlkgbhohchoaaGreatVFnExactRepairedAtStab
import Derived.Sort.WalkB2
import Derived.Sort.WalkB12
import Derived.Deep.LoopGhost
import Derived.KernelRfl
import Derived.Deep.DeepCutAuto
namespace Go.Proofs.YthnlkgbhohchoaaGreat.Stw
open Go.Shelf Go.RowKit Go.Lib Go.Sort Stb
variable {α : Type} [Inhabited α]
set_option maxHeartbeats 4000000 in
set_option maxRecDepth 1000000 in
/-- slices.swapRangeCmpFunc at elements of one cell. -/
theorem swapRange (enc : α → Value) (fv : Value) (blk off cap a b n : Nat) (d0 d : Array α) (w0 w : World)
    (R : Row1 enc w0 blk off d0) (hs : d0.size = d.size) (S : SW enc w0 blk off d w) (hab : a + n ≤ b) (hb : b + n ≤ d.size) (hsz : d.size < 4611686018427387904) :
    Calls Tryz.prog 163 #[.slice (some ⟨blk, off, none⟩) d.size cap, .int .i64 a, .int .i64 b, .int .i64 n, fv] w fun e w' => e = .returned (.tuple #[]) ∧ ∃ d', SW enc w0 blk off d' w' ∧ Ex a b n d.toList d'.toList := by
  have hu := Tryz.underlying25
  have hcl0 := R.hO.cells
  simp only [Value.cells] at hcl0
  have hst := R.hO.store Tryz.prog
  have mixed : Tryz.prog.follows Departure.mixedOrders = true := by kernel_rfl
  have S0 : Aside (SW enc w0 blk off d w) := S
  clear S
  go_enter Tryz.func163, Tryz.ntmps163
  go_wp2
  go_loopg [10] n (fun kx v10 wr => ∃ (i : Nat) (dk : Array α), v10 = .int .i64 i ∧ i ≤ n ∧ n - i ≤ kx ∧ dk.size = d.size ∧ Aside (SW enc w0 blk off dk wr) ∧ Aside (Ex a b i d.toList dk.toList))
  case atStart => exact ⟨0, d, by go_num, by omega, by omega, rfl, S0, Ex.zero a b _⟩
  case round =>
    clear S0
    obtain ⟨i, dk, rfl, hi, hkx, hds, S1, HX⟩ := hrel
    by_cases hlt : i < n
    · have hltz : (i : Int) < (n : Int) := by omega
      have hd : decide ((i : Int) < (n : Int)) = true := decide_eq_true hltz
      go_wp2_with fail
      obtain ⟨iN1, hiN1⟩ : ∃ q, q = a + i := ⟨_, rfl⟩
      obtain ⟨jN1, hjN1⟩ : ∃ q, q = b + i := ⟨_, rfl⟩
      have ea1 : ((a : Int) + (i : Int)).toNat = iN1 := by omega
      have pa1 : (0 : Int) ≤ (a : Int) + (i : Int) := by omega
      have ba1 : (a : Int) + (i : Int) < (d.size : Int) := by omega
      have ra1 : IntKind.i64.wrap ((a : Int) + (i : Int)) = (a : Int) + (i : Int) := by rw [IntKind.wrap_i64]; omega
      have ec1 : ((b : Int) + (i : Int)).toNat = jN1 := by omega
      have pc1 : (0 : Int) ≤ (b : Int) + (i : Int) := by omega
      have bc1 : (b : Int) + (i : Int) < (d.size : Int) := by omega
      have rc1 : IntKind.i64.wrap ((b : Int) + (i : Int)) = (b : Int) + (i : Int) := by rw [IntKind.wrap_i64]; omega
      obtain ⟨x1, hx1⟩ : ∃ x, x = dk[a + i]! := ⟨_, rfl⟩
      obtain ⟨y1, hy1⟩ : ∃ x, x = dk[b + i]! := ⟨_, rfl⟩
      have S2 : Aside (SW enc w0 blk off (swp dk (a + i) (b + i)) ((wr.setCell ⟨blk, off + iN1, none⟩ (enc y1)).setCell ⟨blk, off + jN1, none⟩ (enc x1)).drew) := by rw [hiN1, hjN1, hx1, hy1]; exact S1.out.swapped R (a + i) (b + i) (by omega) (by omega)
      have c1a := S1.out.c1 R (by omega) (a + i) (by omega)
      have c1b := S1.out.c1 R (by omega) (b + i) (by omega)
      have f1a := S1.out.f1 R (by omega) (a + i) (by omega)
      have f1b := S1.out.f1 R (by omega) (b + i) (by omega)
      obtain ⟨u1, c1c⟩ := S1.out.c2 R (by omega) (a + i) (b + i) (by omega) (by omega) (enc y1)
      rw [← hjN1, ← hiN1] at c1c
      rw [← hx1, ← hiN1] at c1a
      rw [← hy1, ← hjN1] at c1b
      rw [← hiN1] at f1a
      rw [← hjN1] at f1b
      clear S1 hx1 hy1 hiN1 hjN1
      go_wp2_with fail
      go_big_region_o
      clear c1a c1b c1c f1a f1b
      generalize ((wr.setCell ⟨blk, off + iN1, none⟩ (enc y1)).setCell ⟨blk, off + jN1, none⟩ (enc x1)).drew = w2 at S2 ⊢
      clear ea1 ec1 pa1 ba1 ra1 pc1 bc1 rc1
      go_wp2
      go_roundg (n - (i + 1))
      case measure => omega
      case rel => exact ⟨i + 1, swp dk (a + i) (b + i), by go_num, by omega, by omega, by rw [size_swp]; exact hds, S2, HX.out.step (by omega) (swp_sw (by omega) (by omega) (by omega))⟩
    · obtain rfl : i = n := by omega
      have hd : decide ((i : Int) < (i : Int)) = false := decide_eq_false (by omega)
      go_wp2
      go_end0
      exact ⟨rfl, dk, S1.out, HX.out⟩
set_option maxHeartbeats 4000000 in
set_option maxRecDepth 1000000 in
/-- slices.rotateCmpFunc at elements of one cell. -/
theorem rotate (enc : α → Value) (fv : Value) (blk off cap a m b : Nat) (d0 d : Array α) (w0 w : World)
    (R : Row1 enc w0 blk off d0) (hs : d0.size = d.size) (S : SW enc w0 blk off d w) (ham : a < m) (hmb : m < b) (hb : b ≤ d.size) (hsz : d.size < 4611686018427387904) :
    Calls Tryz.prog 154 #[.slice (some ⟨blk, off, none⟩) d.size cap, .int .i64 a, .int .i64 m, .int .i64 b, fv] w fun e w' => e = .returned (.tuple #[]) ∧ ∃ d', SW enc w0 blk off d' w' ∧ Rot a m b d.toList d'.toList := by
  have S0 : Aside (SW enc w0 blk off d w) := S
  clear S
  have hI : IntKind.i64.wrap ((m : Int) - (a : Int)) = ((m - a : Nat) : Int) := by rw [IntKind.wrap_i64]; omega
  have hJ : IntKind.i64.wrap ((b : Int) - (m : Int)) = ((b - m : Nat) : Int) := by rw [IntKind.wrap_i64]; omega
  go_enter Tryz.func154, Tryz.ntmps154
  go_wp2
  go_loopg [10, 11] (b - a) (fun kx v10 v11 wr => ∃ (i j : Nat) (dk : Array α), v10 = .int .i64 i ∧ v11 = .int .i64 j ∧ 0 < i ∧ 0 < j ∧ i ≤ m ∧ m + j ≤ b ∧ i + j ≤ kx ∧ dk.size = d.size ∧ Aside (SW enc w0 blk off dk wr) ∧ Aside (Hlf a m b i j d.toList dk.toList))
  case atStart => exact ⟨m - a, b - m, d, by first | rfl | go_num | (congr 1; omega), by first | rfl | go_num | (congr 1; omega), by omega, by omega, by omega, by omega, by omega, rfl, S0, Hlf.zero (by omega) (by omega)⟩
  case round =>
    clear S0
    obtain ⟨i, j, dk, rfl, rfl, hi0, hj0, him, hjb, hkx, hds, S1, HL⟩ := hrel
    have hmi : IntKind.i64.wrap ((m : Int) - (i : Int)) = ((m - i : Nat) : Int) := by rw [IntKind.wrap_i64]; omega
    have hdk := R
    by_cases hne : i = j
    · subst hne
      have hd : ((i : Int) != (i : Int)) = false := by simp
      have hsw := swapRange enc fv blk off cap (m - i) m i d0 dk w0 wr R (by omega) S1.out (by omega) (by omega) (by omega)
      rw [hds] at hsw
      go_wp2_with (go_at_call 163; refine hsw.mono ?_; rintro e w1 ⟨rfl, d1, S2, HE⟩)
      go_end0
      exact ⟨rfl, d1, S2, HL.out.last him HE⟩
    · have hne' : ¬ (i : Int) = (j : Int) := by omega
      have hd : ((i : Int) != (j : Int)) = true := bne_iff_ne.mpr hne'
      by_cases hgt : j < i
      · have hd2 : decide ((i : Int) > (j : Int)) = true := decide_eq_true (by omega)
        have hgz : (j : Int) < (i : Int) := by omega
        have hij : IntKind.i64.wrap ((i : Int) - (j : Int)) = ((i - j : Nat) : Int) := by rw [IntKind.wrap_i64]; omega
        have hsw := swapRange enc fv blk off cap (m - i) m j d0 dk w0 wr R (by omega) S1.out (by omega) (by omega) (by omega)
        rw [hds] at hsw
        go_wp2_with (go_at_call 163; refine hsw.mono ?_; rintro e w1 ⟨rfl, d1, S2, HE⟩)
        go_roundg (i - j + j)
        case measure => omega
        case rel => exact ⟨i - j, j, d1, by with_reducible rfl, rfl, by omega, hj0, by omega, hjb, Nat.le_refl _, by rw [HE.size]; exact hds, S2, HL.out.big him hgt HE⟩
      · have hd2 : decide ((i : Int) > (j : Int)) = false := decide_eq_false (by omega)
        have hgz : ¬ (j : Int) < (i : Int) := by omega
        have hlt : i < j := by omega
        have hmj : IntKind.i64.wrap ((m : Int) + (j : Int)) = (m : Int) + (j : Int) := by rw [IntKind.wrap_i64]; omega
        have hmji : IntKind.i64.wrap ((m : Int) + (j : Int) - (i : Int)) = ((m + j - i : Nat) : Int) := by rw [IntKind.wrap_i64]; omega
        have hji : IntKind.i64.wrap ((j : Int) - (i : Int)) = ((j - i : Nat) : Int) := by rw [IntKind.wrap_i64]; omega
        have hsw := swapRange enc fv blk off cap (m - i) (m + j - i) i d0 dk w0 wr R (by omega) S1.out (by omega) (by omega) (by omega)
        rw [hds] at hsw
        go_wp2_with (go_at_call 163; refine hsw.mono ?_; rintro e w1 ⟨rfl, d1, S2, HE⟩)
        go_roundg (i + (j - i))
        case measure => omega
        case rel => exact ⟨i, j - i, d1, rfl, by with_reducible rfl, hi0, by omega, him, by omega, Nat.le_refl _, by rw [HE.size]; exact hds, S2, HL.out.small him hlt HE⟩
set_option maxHeartbeats 8000000 in
set_option maxRecDepth 1000000 in
/-- slices.symMergeCmpFunc at elements of one cell: one element ahead. -/
theorem merge_a (enc : α → Value) (cf : α → α → Int) (key : α → Int) (hk : ∀ x y, cf x y < 0 ↔ key x < key y) (g : Nat) (cb : Array Value) (blk off cap : Nat) (d0 : Array α) (w0 : World)
    (eg : ∀ args w, (callFunc g args).run Tryz.prog w = .ok (.enter g args) w) (hcmp : CmpLays1 Tryz.prog g cb enc cf blk off d0.size w0) (R : Row1 enc w0 blk off d0)
    (a b : Nat) (d : Array α) (w : World) (hs : d0.size = d.size) (S : SW enc w0 blk off d w) (hmb : a + 1 < b) (hb : b ≤ d.size) (hsz : d.size < 4611686018427387904) (h1 : So key a (a + 1) d.toList) (h2 : So key (a + 1) b d.toList) :
    Calls Tryz.prog 131 #[.slice (some ⟨blk, off, none⟩) d.size cap, .int .i64 a, .int .i64 ((a + 1 : Nat) : Int), .int .i64 b, .func (.func g) #[] cb] w fun e w' => e = .returned (.tuple #[]) ∧ ∃ d', SW enc w0 blk off d' w' ∧ Ch key a b d.toList d'.toList ∧ So key a b d'.toList := by
  have hu := Tryz.underlying25
  have hcl0 := R.hO.cells
  simp only [Value.cells] at hcl0
  have hst := R.hO.store Tryz.prog
  have mixed : Tryz.prog.follows Departure.mixedOrders = true := by kernel_rfl
  have HC : Aside _ := hcmp
  have S0 : Aside (SW enc w0 blk off d w) := S
  have HK : Aside _ := hk
  clear S hcmp hk
  have hma : IntKind.i64.wrap ((a : Int) + 1 - (a : Int)) = 1 := by rw [IntKind.wrap_i64]; omega
  go_enter Tryz.func131, Tryz.ntmps131
  go_wp2
  go_loopg [10, 11] (b - a) (fun kx v10 v11 wr => ∃ (i j : Nat), v10 = .int .i64 i ∧ v11 = .int .i64 j ∧ a + 1 ≤ i ∧ i ≤ j ∧ j ≤ b ∧ j - i ≤ kx ∧ Aside (SW enc w0 blk off d wr) ∧ Aside (i = a + 1 ∨ key d[i - 1]! < key d[a]!) ∧ Aside (j = b ∨ key d[a]! ≤ key d[j]!))
  case atStart => exact ⟨a + 1, b, by first | rfl | (with_reducible go_num) | (congr 1; omega), rfl, by omega, by omega, by omega, by omega, S0, .inl rfl, .inl rfl⟩
  case round =>
    clear S0
    obtain ⟨i, j, rfl, rfl, hi, hij, hj, hkx, S1, HI, HJ⟩ := hrel
    by_cases hlt : i < j
    · have hltz : (i : Int) < (j : Int) := by omega
      have hd : decide ((i : Int) < (j : Int)) = true := decide_eq_true hltz
      have hw : IntKind.i64.wrap ((i : Int) + (j : Int)) = (i : Int) + (j : Int) := by rw [IntKind.wrap_i64]; omega
      obtain ⟨h, hh, hh1, hh2⟩ : ∃ h : Nat, ((i : Int) + (j : Int)) / 2 = (h : Int) ∧ i ≤ h ∧ h < j := ⟨(i + j) / 2, by omega, by omega, by omega⟩
      go_wp2_with fail
      try rw [hh]
      by_cases hlv : cf d[h]! d[a]! < 0
      · have hlk := (HK.out _ _).1 hlv
        obtain ⟨iN1, hiN1⟩ : ∃ q, q = h := ⟨_, rfl⟩
        obtain ⟨jN1, hjN1⟩ : ∃ q, q = a := ⟨_, rfl⟩
        have ea1 : ((h : Int)).toNat = iN1 := by omega
        have pa1 : (0 : Int) ≤ (h : Int) := by omega
        have ba1 : (h : Int) < (d.size : Int) := by omega
        have ra1 : IntKind.i64.wrap ((h : Int)) = (h : Int) := by rw [IntKind.wrap_i64]; omega
        have ec1 : ((a : Int)).toNat = jN1 := by omega
        have pc1 : (0 : Int) ≤ (a : Int) := by omega
        have bc1 : (a : Int) < (d.size : Int) := by omega
        have rc1 : IntKind.i64.wrap ((a : Int)) = (a : Int) := by rw [IntKind.wrap_i64]; omega
        obtain ⟨x1, hx1⟩ : ∃ x, x = d[h]! := ⟨_, rfl⟩
        obtain ⟨y1, hy1⟩ : ∃ x, x = d[a]! := ⟨_, rfl⟩
        have l1a := S1.out.cl R (by omega) (h) (by omega)
        have l1b := S1.out.cl R (by omega) (a) (by omega)
        rw [← hx1, ← hiN1] at l1a
        rw [← hy1, ← hjN1] at l1b
        have hc1 := S1.out.cmp HC.out (by omega) x1 y1
        have hv1 : cf x1 y1 < 0 := by rw [hx1, hy1]; exact hlv
        have hd1 : decide (cf x1 y1 < 0) = true := decide_eq_true hv1
        clear hx1 hy1 hiN1 hjN1
        go_wp2_with fail
        go_quiet_grown (first | (go_at_fn g; refine Calls.grown_of (hc1 _ _)))
        have S2 : Aside (SW enc w0 blk off d (grow (wr.drewN nq) osq)) := S1.out.grown nq osq
        clear l1a l1b hc1 S1
        generalize grow (wr.drewN nq) osq = w2 at S2 ⊢
        clear nq osq
        clear ea1 ec1 pa1 ba1 ra1 pc1 bc1 rc1
        have hh3 : IntKind.i64.wrap ((h : Int) + 1) = ((h + 1 : Nat) : Int) := by rw [IntKind.wrap_i64]; omega
        go_wp2
        go_roundg (j - (h + 1))
        case measure => omega
        case rel => exact ⟨h + 1, j, by first | rfl | (with_reducible go_num) | (congr 1; omega), rfl, by omega, by omega, hj, Nat.le_refl _, S2, .inr (by rw [Nat.add_sub_cancel]; exact hlk), HJ⟩
      · have hlk := fun x => hlv ((HK.out d[h]! d[a]!).2 x)
        obtain ⟨iN2, hiN2⟩ : ∃ q, q = h := ⟨_, rfl⟩
        obtain ⟨jN2, hjN2⟩ : ∃ q, q = a := ⟨_, rfl⟩
        have ea2 : ((h : Int)).toNat = iN2 := by omega
        have pa2 : (0 : Int) ≤ (h : Int) := by omega
        have ba2 : (h : Int) < (d.size : Int) := by omega
        have ra2 : IntKind.i64.wrap ((h : Int)) = (h : Int) := by rw [IntKind.wrap_i64]; omega
        have ec2 : ((a : Int)).toNat = jN2 := by omega
        have pc2 : (0 : Int) ≤ (a : Int) := by omega
        have bc2 : (a : Int) < (d.size : Int) := by omega
        have rc2 : IntKind.i64.wrap ((a : Int)) = (a : Int) := by rw [IntKind.wrap_i64]; omega
        obtain ⟨x2, hx2⟩ : ∃ x, x = d[h]! := ⟨_, rfl⟩
        obtain ⟨y2, hy2⟩ : ∃ x, x = d[a]! := ⟨_, rfl⟩
        have l2a := S1.out.cl R (by omega) (h) (by omega)
        have l2b := S1.out.cl R (by omega) (a) (by omega)
        rw [← hx2, ← hiN2] at l2a
        rw [← hy2, ← hjN2] at l2b
        have hc2 := S1.out.cmp HC.out (by omega) x2 y2
        have hv2 : ¬ cf x2 y2 < 0 := by rw [hx2, hy2]; exact hlv
        have hd2 : decide (cf x2 y2 < 0) = false := decide_eq_false hv2
        clear hx2 hy2 hiN2 hjN2
        go_wp2_with fail
        go_quiet_grown (first | (go_at_fn g; refine Calls.grown_of (hc2 _ _)))
        have S2 : Aside (SW enc w0 blk off d (grow (wr.drewN nq) osq)) := S1.out.grown nq osq
        clear l2a l2b hc2 S1
        generalize grow (wr.drewN nq) osq = w2 at S2 ⊢
        clear nq osq
        clear ea2 ec2 pa2 ba2 ra2 pc2 bc2 rc2
        go_wp2
        go_roundg (h - i)
        case measure => omega
        case rel => exact ⟨i, h, rfl, rfl, hi, hh1, by omega, Nat.le_refl _, S2, HI, .inr (Int.not_lt.1 hlk)⟩
    · obtain rfl : i = j := by omega
      have hd : decide ((i : Int) < (i : Int)) = false := decide_eq_false (by omega)
      have hi1 : IntKind.i64.wrap ((i : Int) - 1) = (i : Int) - 1 := by rw [IntKind.wrap_i64]; omega
      go_wp2
      go_loopg [13] (i - a) (fun kx v13 wr => ∃ (k : Nat) (dk : Array α), v13 = .int .i64 k ∧ a ≤ k ∧ k + 1 ≤ i ∧ i - k ≤ kx ∧ dk.size = d.size ∧ Aside (SW enc w0 blk off dk wr) ∧ Aside (Rot a (a + 1) (k + 1) d.toList dk.toList))
      case atStart => exact ⟨a, d, rfl, Nat.le_refl _, by omega, by omega, rfl, S1, Rot.refl1 a _⟩
      case round =>
        clear S1
        obtain ⟨k, dk, rfl, hk0, hki, hkx2, hds, S3, HR⟩ := hrel
        by_cases hlt2 : k + 1 < i
        · have hlz : (k : Int) < (i : Int) - 1 := by omega
          have hd2 : decide ((k : Int) < (i : Int) - 1) = true := decide_eq_true hlz
          go_wp2_with fail
          obtain ⟨iN3, hiN3⟩ : ∃ q, q = k := ⟨_, rfl⟩
          obtain ⟨jN3, hjN3⟩ : ∃ q, q = k + 1 := ⟨_, rfl⟩
          have ea3 : ((k : Int)).toNat = iN3 := by omega
          have pa3 : (0 : Int) ≤ (k : Int) := by omega
          have ba3 : (k : Int) < (d.size : Int) := by omega
          have ra3 : IntKind.i64.wrap ((k : Int)) = (k : Int) := by rw [IntKind.wrap_i64]; omega
          have ec3 : ((k : Int) + 1).toNat = jN3 := by omega
          have pc3 : (0 : Int) ≤ (k : Int) + 1 := by omega
          have bc3 : (k : Int) + 1 < (d.size : Int) := by omega
          have rc3 : IntKind.i64.wrap ((k : Int) + 1) = (k : Int) + 1 := by rw [IntKind.wrap_i64]; omega
          obtain ⟨x3, hx3⟩ : ∃ x, x = dk[k]! := ⟨_, rfl⟩
          obtain ⟨y3, hy3⟩ : ∃ x, x = dk[k + 1]! := ⟨_, rfl⟩
          have S4 : Aside (SW enc w0 blk off (swp dk (k) (k + 1)) ((wr.setCell ⟨blk, off + iN3, none⟩ (enc y3)).setCell ⟨blk, off + jN3, none⟩ (enc x3)).drew) := by rw [hiN3, hjN3, hx3, hy3]; exact S3.out.swapped R (k) (k + 1) (by omega) (by omega)
          have c3a := S3.out.c1 R (by omega) (k) (by omega)
          have c3b := S3.out.c1 R (by omega) (k + 1) (by omega)
          have f3a := S3.out.f1 R (by omega) (k) (by omega)
          have f3b := S3.out.f1 R (by omega) (k + 1) (by omega)
          obtain ⟨u3, c3c⟩ := S3.out.c2 R (by omega) (k) (k + 1) (by omega) (by omega) (enc y3)
          rw [← hjN3, ← hiN3] at c3c
          rw [← hx3, ← hiN3] at c3a
          rw [← hy3, ← hjN3] at c3b
          rw [← hiN3] at f3a
          rw [← hjN3] at f3b
          clear S3 hx3 hy3 hiN3 hjN3
          go_wp2_with fail
          go_big_region_o
          clear c3a c3b c3c f3a f3b
          generalize ((wr.setCell ⟨blk, off + iN3, none⟩ (enc y3)).setCell ⟨blk, off + jN3, none⟩ (enc x3)).drew = w4 at S4 ⊢
          clear ea3 ec3 pa3 ba3 ra3 pc3 bc3 rc3
          go_wp2
          go_roundg (i - (k + 1))
          case measure => omega
          case rel => exact ⟨k + 1, swp dk k (k + 1), by first | rfl | (with_reducible go_num) | (congr 1; omega), by omega, by omega, Nat.le_refl _, by rw [size_swp]; exact hds, S4, HR.out.up hk0 (swp_sw (by omega) (by omega) (by omega))⟩
        · obtain rfl : i = k + 1 := by omega
          have hlz : ¬ (k : Int) < ((k + 1 : Nat) : Int) - 1 := by omega
          have hd2 : decide ((k : Int) < ((k + 1 : Nat) : Int) - 1) = false := decide_eq_false hlz
          have hlz' : ¬ (k : Int) < (k : Int) + 1 - 1 := by omega
          go_wp2
          (try simp only [Exit.inBlock, Exit.then])
          refine bodyPost_ret (results_none rfl _ _ _) rfl ?_
          refine ⟨rfl, dk, S3.out, merge1 HR.out h1 h2 (Nat.le_refl _) (by omega) (by omega) hj (by simpa using hb) ?_ (.inl rfl) (.inl rfl) ?_⟩
          · rcases HI.out with HI | HI
            · exact .inr (.inl HI)
            · refine .inr (.inr fun x y e f => ?_)
              rw [get_bang (by omega)] at e f
              injection e with e
              injection f with f
              rw [← e, ← f]; exact HI
          · rcases HJ.out with HJ | HJ
            · exact .inl HJ
            · by_cases hib : k + 1 < b
              · refine .inr (.inr fun x y e f => ?_)
                rw [Nat.add_sub_cancel, get_bang (by omega)] at e
                rw [get_bang (by omega)] at f
                injection e with e
                injection f with f
                rw [← e, ← f]; omega
              · exact .inl (by omega)
set_option maxHeartbeats 8000000 in
set_option maxRecDepth 1000000 in
/-- slices.symMergeCmpFunc at elements of one cell: one element behind. -/
theorem merge_b (enc : α → Value) (cf : α → α → Int) (key : α → Int) (hk : ∀ x y, cf x y < 0 ↔ key x < key y) (g : Nat) (cb : Array Value) (blk off cap : Nat) (d0 : Array α) (w0 : World)
    (eg : ∀ args w, (callFunc g args).run Tryz.prog w = .ok (.enter g args) w) (hcmp : CmpLays1 Tryz.prog g cb enc cf blk off d0.size w0) (R : Row1 enc w0 blk off d0)
    (a m : Nat) (d : Array α) (w : World) (hs : d0.size = d.size) (S : SW enc w0 blk off d w) (ham : a + 1 < m) (hb : m + 1 ≤ d.size) (hsz : d.size < 4611686018427387904) (h1 : So key a m d.toList) (h2 : So key m (m + 1) d.toList) :
    Calls Tryz.prog 131 #[.slice (some ⟨blk, off, none⟩) d.size cap, .int .i64 a, .int .i64 m, .int .i64 ((m + 1 : Nat) : Int), .func (.func g) #[] cb] w fun e w' => e = .returned (.tuple #[]) ∧ ∃ d', SW enc w0 blk off d' w' ∧ Ch key a (m + 1) d.toList d'.toList ∧ So key a (m + 1) d'.toList := by
  have hu := Tryz.underlying25
  have hcl0 := R.hO.cells
  simp only [Value.cells] at hcl0
  have hst := R.hO.store Tryz.prog
  have mixed : Tryz.prog.follows Departure.mixedOrders = true := by kernel_rfl
  have HC : Aside _ := hcmp
  have S0 : Aside (SW enc w0 blk off d w) := S
  have HK : Aside _ := hk
  clear S hcmp hk
  have hma : ¬ IntKind.i64.wrap ((m : Int) - (a : Int)) = 1 := by rw [IntKind.wrap_i64]; omega
  have hma' : IntKind.i64.wrap ((m : Int) - (a : Int)) = (m : Int) - (a : Int) := by rw [IntKind.wrap_i64]; omega
  have hma2 : ((m : Int) - (a : Int) == 1) = false := beq_eq_false_iff_ne.mpr (by omega)
  have hmb : IntKind.i64.wrap ((m : Int) + 1 - (m : Int)) = 1 := by rw [IntKind.wrap_i64]; omega
  go_enter Tryz.func131, Tryz.ntmps131
  go_wp2
  go_loopg [14, 15] (m - a) (fun kx v14 v15 wr => ∃ (i j : Nat), v14 = .int .i64 i ∧ v15 = .int .i64 j ∧ a ≤ i ∧ i ≤ j ∧ j ≤ m ∧ j - i ≤ kx ∧ Aside (SW enc w0 blk off d wr) ∧ Aside (i = a ∨ key d[i - 1]! ≤ key d[m]!) ∧ Aside (j = m ∨ key d[m]! < key d[j]!))
  case atStart => exact ⟨a, m, rfl, rfl, by omega, by omega, by omega, by omega, S0, .inl rfl, .inl rfl⟩
  case round =>
    clear S0
    obtain ⟨i, j, rfl, rfl, hi, hij, hj, hkx, S1, HI, HJ⟩ := hrel
    by_cases hlt : i < j
    · have hltz : (i : Int) < (j : Int) := by omega
      have hd : decide ((i : Int) < (j : Int)) = true := decide_eq_true hltz
      have hw : IntKind.i64.wrap ((i : Int) + (j : Int)) = (i : Int) + (j : Int) := by rw [IntKind.wrap_i64]; omega
      obtain ⟨h, hh, hh1, hh2⟩ : ∃ h : Nat, ((i : Int) + (j : Int)) / 2 = (h : Int) ∧ i ≤ h ∧ h < j := ⟨(i + j) / 2, by omega, by omega, by omega⟩
      go_wp2_with fail
      try rw [hh]
      by_cases hlv : cf d[m]! d[h]! < 0
      · have hlk := (HK.out _ _).1 hlv
        obtain ⟨iN1, hiN1⟩ : ∃ q, q = m := ⟨_, rfl⟩
        obtain ⟨jN1, hjN1⟩ : ∃ q, q = h := ⟨_, rfl⟩
        have ea1 : ((m : Int)).toNat = iN1 := by omega
        have pa1 : (0 : Int) ≤ (m : Int) := by omega
        have ba1 : (m : Int) < (d.size : Int) := by omega
        have ra1 : IntKind.i64.wrap ((m : Int)) = (m : Int) := by rw [IntKind.wrap_i64]; omega
        have ec1 : ((h : Int)).toNat = jN1 := by omega
        have pc1 : (0 : Int) ≤ (h : Int) := by omega
        have bc1 : (h : Int) < (d.size : Int) := by omega
        have rc1 : IntKind.i64.wrap ((h : Int)) = (h : Int) := by rw [IntKind.wrap_i64]; omega
        obtain ⟨x1, hx1⟩ : ∃ x, x = d[m]! := ⟨_, rfl⟩
        obtain ⟨y1, hy1⟩ : ∃ x, x = d[h]! := ⟨_, rfl⟩
        have l1a := S1.out.cl R (by omega) (m) (by omega)
        have l1b := S1.out.cl R (by omega) (h) (by omega)
        rw [← hx1, ← hiN1] at l1a
        rw [← hy1, ← hjN1] at l1b
        have hc1 := S1.out.cmp HC.out (by omega) x1 y1
        have hv1 : cf x1 y1 < 0 := by rw [hx1, hy1]; exact hlv
        have hd1 : decide (cf x1 y1 < 0) = true := decide_eq_true hv1
        clear hx1 hy1 hiN1 hjN1
        go_wp2_with fail
        go_quiet_grown (first | (go_at_fn g; refine Calls.grown_of (hc1 _ _)))
        have S2 : Aside (SW enc w0 blk off d (grow (wr.drewN nq) osq)) := S1.out.grown nq osq
        clear l1a l1b hc1 S1
        generalize grow (wr.drewN nq) osq = w2 at S2 ⊢
        clear nq osq
        clear ea1 ec1 pa1 ba1 ra1 pc1 bc1 rc1
        go_wp2
        go_roundg (h - i)
        case measure => omega
        case rel => exact ⟨i, h, rfl, rfl, hi, hh1, by omega, Nat.le_refl _, S2, HI, .inr hlk⟩
      · have hlk := fun x => hlv ((HK.out d[m]! d[h]!).2 x)
        obtain ⟨iN2, hiN2⟩ : ∃ q, q = m := ⟨_, rfl⟩
        obtain ⟨jN2, hjN2⟩ : ∃ q, q = h := ⟨_, rfl⟩
        have ea2 : ((m : Int)).toNat = iN2 := by omega
        have pa2 : (0 : Int) ≤ (m : Int) := by omega
        have ba2 : (m : Int) < (d.size : Int) := by omega
        have ra2 : IntKind.i64.wrap ((m : Int)) = (m : Int) := by rw [IntKind.wrap_i64]; omega
        have ec2 : ((h : Int)).toNat = jN2 := by omega
        have pc2 : (0 : Int) ≤ (h : Int) := by omega
        have bc2 : (h : Int) < (d.size : Int) := by omega
        have rc2 : IntKind.i64.wrap ((h : Int)) = (h : Int) := by rw [IntKind.wrap_i64]; omega
        obtain ⟨x2, hx2⟩ : ∃ x, x = d[m]! := ⟨_, rfl⟩
        obtain ⟨y2, hy2⟩ : ∃ x, x = d[h]! := ⟨_, rfl⟩
        have l2a := S1.out.cl R (by omega) (m) (by omega)
        have l2b := S1.out.cl R (by omega) (h) (by omega)
        rw [← hx2, ← hiN2] at l2a
        rw [← hy2, ← hjN2] at l2b
        have hc2 := S1.out.cmp HC.out (by omega) x2 y2
        have hv2 : ¬ cf x2 y2 < 0 := by rw [hx2, hy2]; exact hlv
        have hd2 : decide (cf x2 y2 < 0) = false := decide_eq_false hv2
        clear hx2 hy2 hiN2 hjN2
        go_wp2_with fail
        go_quiet_grown (first | (go_at_fn g; refine Calls.grown_of (hc2 _ _)))
        have S2 : Aside (SW enc w0 blk off d (grow (wr.drewN nq) osq)) := S1.out.grown nq osq
        clear l2a l2b hc2 S1
        generalize grow (wr.drewN nq) osq = w2 at S2 ⊢
        clear nq osq
        clear ea2 ec2 pa2 ba2 ra2 pc2 bc2 rc2
        have hh3 : IntKind.i64.wrap ((h : Int) + 1) = ((h + 1 : Nat) : Int) := by rw [IntKind.wrap_i64]; omega
        go_wp2
        go_roundg (j - (h + 1))
        case measure => omega
        case rel => exact ⟨h + 1, j, by first | rfl | (with_reducible go_num) | (congr 1; omega), rfl, by omega, by omega, hj, Nat.le_refl _, S2, .inr (by rw [Nat.add_sub_cancel]; exact Int.not_lt.1 hlk), HJ⟩
    · obtain rfl : i = j := by omega
      have hd : decide ((i : Int) < (i : Int)) = false := decide_eq_false (by omega)
      go_wp2
      go_loopg [17] (m - i) (fun kx v17 wr => ∃ (k : Nat) (dk : Array α), v17 = .int .i64 k ∧ i ≤ k ∧ k ≤ m ∧ k - i ≤ kx ∧ dk.size = d.size ∧ Aside (SW enc w0 blk off dk wr) ∧ Aside (Rot k m (m + 1) d.toList dk.toList))
      case atStart => exact ⟨m, d, rfl, hj, Nat.le_refl _, Nat.le_refl _, rfl, S1, Rot.refl2 m _⟩
      case round =>
        clear S1
        obtain ⟨k, dk, rfl, hk0, hki, hkx2, hds, S3, HR⟩ := hrel
        by_cases hlt2 : i < k
        · obtain ⟨k, rfl⟩ : ∃ q, k = q + 1 := ⟨k - 1, by omega⟩
          have hlz : (i : Int) < (k : Int) + 1 := by omega
          have hd2 : decide ((k : Int) + 1 > (i : Int)) = true := decide_eq_true hlz
          go_wp2_with fail
          obtain ⟨iN3, hiN3⟩ : ∃ q, q = k + 1 := ⟨_, rfl⟩
          obtain ⟨jN3, hjN3⟩ : ∃ q, q = k := ⟨_, rfl⟩
          have ea3 : ((k : Int) + 1).toNat = iN3 := by omega
          have pa3 : (0 : Int) ≤ (k : Int) + 1 := by omega
          have ba3 : (k : Int) + 1 < (d.size : Int) := by omega
          have ra3 : IntKind.i64.wrap ((k : Int) + 1) = (k : Int) + 1 := by rw [IntKind.wrap_i64]; omega
          have ec3 : ((k : Int)).toNat = jN3 := by omega
          have pc3 : (0 : Int) ≤ (k : Int) := by omega
          have bc3 : (k : Int) < (d.size : Int) := by omega
          have rc3 : IntKind.i64.wrap ((k : Int)) = (k : Int) := by rw [IntKind.wrap_i64]; omega
          obtain ⟨x3, hx3⟩ : ∃ x, x = dk[k + 1]! := ⟨_, rfl⟩
          obtain ⟨y3, hy3⟩ : ∃ x, x = dk[k]! := ⟨_, rfl⟩
          have S4 : Aside (SW enc w0 blk off (swp dk (k + 1) (k)) ((wr.setCell ⟨blk, off + iN3, none⟩ (enc y3)).setCell ⟨blk, off + jN3, none⟩ (enc x3)).drew) := by rw [hiN3, hjN3, hx3, hy3]; exact S3.out.swapped R (k + 1) (k) (by omega) (by omega)
          have c3a := S3.out.c1 R (by omega) (k + 1) (by omega)
          have c3b := S3.out.c1 R (by omega) (k) (by omega)
          have f3a := S3.out.f1 R (by omega) (k + 1) (by omega)
          have f3b := S3.out.f1 R (by omega) (k) (by omega)
          obtain ⟨u3, c3c⟩ := S3.out.c2 R (by omega) (k + 1) (k) (by omega) (by omega) (enc y3)
          rw [← hiN3, ← hjN3] at c3c
          rw [← hx3, ← hiN3] at c3a
          rw [← hy3, ← hjN3] at c3b
          rw [← hiN3] at f3a
          rw [← hjN3] at f3b
          clear S3 hx3 hy3 hiN3 hjN3
          go_wp2_with fail
          go_big_region_o
          clear c3a c3b c3c f3a f3b
          generalize ((wr.setCell ⟨blk, off + iN3, none⟩ (enc y3)).setCell ⟨blk, off + jN3, none⟩ (enc x3)).drew = w4 at S4 ⊢
          clear ea3 ec3 pa3 ba3 ra3 pc3 bc3 rc3
          go_wp2
          go_roundg (k - i)
          case measure => omega
          case rel => exact ⟨k, swp dk (k + 1) k, by first | rfl | (with_reducible go_num) | (congr 1; omega), by omega, by omega, Nat.le_refl _, by rw [size_swp]; exact hds, S4, HR.out.down rfl hki (swp_sw (by omega) (by omega) (by omega))⟩
        · obtain rfl : i = k := by omega
          have hd2 : decide ((i : Int) > (i : Int)) = false := decide_eq_false (by omega)
          go_wp2
          (try simp only [Exit.inBlock, Exit.then])
          refine bodyPost_ret (results_none rfl _ _ _) rfl ?_
          refine ⟨rfl, dk, S3.out, merge1 HR.out h1 h2 hi hj (by omega) (Nat.le_refl _) (by simp; omega) ?_ (.inr (.inl rfl)) ?_ (.inl rfl)⟩
          · rcases HJ.out with HJ | HJ
            · exact .inl HJ
            · by_cases him : i < m
              · refine .inr (.inr fun x y e f => ?_)
                rw [get_bang (by omega)] at e
                rw [Nat.add_sub_cancel, get_bang (by omega)] at f
                injection e with e
                injection f with f
                rw [← e, ← f]; exact HJ
              · exact .inl (by omega)
          · rcases HI.out with HI | HI
            · exact .inl HI.symm
            · by_cases hia : a < i
              · refine .inr (.inr fun x y e f => ?_)
                rw [get_bang (by omega)] at e f
                injection e with e
                injection f with f
                rw [← e, ← f]; exact HI
              · exact .inl (by omega)
set_option maxHeartbeats 8000000 in
set_option maxRecDepth 1000000 in
/-- slices.symMergeCmpFunc at elements of one cell: more than one element on each side. -/
theorem merge_c (enc : α → Value) (cf : α → α → Int) (key : α → Int) (hk : ∀ x y, cf x y < 0 ↔ key x < key y) (g : Nat) (cb : Array Value) (blk off cap : Nat) (d0 : Array α) (w0 : World)
    (eg : ∀ args w, (callFunc g args).run Tryz.prog w = .ok (.enter g args) w) (hcmp : CmpLays1 Tryz.prog g cb enc cf blk off d0.size w0) (R : Row1 enc w0 blk off d0)
    (a m b : Nat) (d : Array α) (w : World) (hs : d0.size = d.size) (S : SW enc w0 blk off d w) (ham : a + 1 < m) (hmb : m + 1 < b) (hb : b ≤ d.size) (hsz : d.size < 4611686018427387904) (h1 : So key a m d.toList) (h2 : So key m b d.toList)
    (ih : ∀ (a' m' b' : Nat) (d1 : Array α) (w1 : World), b' - a' < b - a → d0.size = d1.size → SW enc w0 blk off d1 w1 → a' < m' → m' < b' → b' ≤ d1.size → So key a' m' d1.toList → So key m' b' d1.toList →
      Calls Tryz.prog 131 #[.slice (some ⟨blk, off, none⟩) d1.size cap, .int .i64 a', .int .i64 m', .int .i64 b', .func (.func g) #[] cb] w1 fun e w' => e = .returned (.tuple #[]) ∧ ∃ d', SW enc w0 blk off d' w' ∧ Ch key a' b' d1.toList d'.toList ∧ So key a' b' d'.toList) :
    Calls Tryz.prog 131 #[.slice (some ⟨blk, off, none⟩) d.size cap, .int .i64 a, .int .i64 m, .int .i64 b, .func (.func g) #[] cb] w fun e w' => e = .returned (.tuple #[]) ∧ ∃ d', SW enc w0 blk off d' w' ∧ Ch key a b d.toList d'.toList ∧ So key a b d'.toList := by
  have hu := Tryz.underlying25
  have hcl0 := R.hO.cells
  simp only [Value.cells] at hcl0
  have hst := R.hO.store Tryz.prog
  have mixed : Tryz.prog.follows Departure.mixedOrders = true := by kernel_rfl
  have HC : Aside _ := hcmp
  have S0 : Aside (SW enc w0 blk off d w) := S
  have HK : Aside _ := hk
  have IH : Aside _ := ih
  have H1 : Aside _ := h1
  have H2 : Aside _ := h2
  clear S hcmp hk ih h1 h2
  have hma' : IntKind.i64.wrap ((m : Int) - (a : Int)) = (m : Int) - (a : Int) := by rw [IntKind.wrap_i64]; omega
  have hma2 : ((m : Int) - (a : Int) == 1) = false := beq_eq_false_iff_ne.mpr (by omega)
  have hma3 : ¬ (m : Int) - (a : Int) = 1 := by omega
  have hmb' : IntKind.i64.wrap ((b : Int) - (m : Int)) = (b : Int) - (m : Int) := by rw [IntKind.wrap_i64]; omega
  have hmb2 : ((b : Int) - (m : Int) == 1) = false := beq_eq_false_iff_ne.mpr (by omega)
  have hmb3 : ¬ (b : Int) - (m : Int) = 1 := by omega
  have hw0 : IntKind.i64.wrap ((a : Int) + (b : Int)) = (a : Int) + (b : Int) := by rw [IntKind.wrap_i64]; omega
  obtain ⟨mid, hmid, hm1, hm2, hm3⟩ : ∃ mid : Nat, ((a : Int) + (b : Int)) / 2 = (mid : Int) ∧ a < mid ∧ mid < b ∧ 2 * mid ≤ a + b := ⟨(a + b) / 2, by omega, by omega, by omega, by omega⟩
  obtain ⟨n, hn0⟩ : ∃ n : Nat, n = mid + m := ⟨_, rfl⟩
  have hn : IntKind.i64.wrap ((mid : Int) + (m : Int)) = (n : Int) := by rw [IntKind.wrap_i64]; omega
  obtain ⟨p, hp0⟩ : ∃ p : Nat, p + 1 = n := ⟨n - 1, by omega⟩
  have hp : IntKind.i64.wrap ((n : Int) - 1) = (p : Int) := by rw [IntKind.wrap_i64]; omega
  have HN : Aside _ := And.intro hn0 hp0
  clear hn0 hp0
  go_enter Tryz.func131, Tryz.ntmps131
  go_upto_if 140 with (fail)
  go_cut [20, 21] (fun v20 v21 wc => ∃ lo hi : Nat, v20 = .int .i64 lo ∧ v21 = .int .i64 hi ∧ (lo = a ∧ hi = m ∧ m ≤ mid ∨ lo + b = n ∧ hi = mid ∧ mid < m) ∧ Aside (SW enc w0 blk off d wc))
  case first => as_aux_lemma =>
    by_cases hmm : mid < m
    · have hg1 : (mid : Int) < (m : Int) := by omega
      have hg2 : decide ((m : Int) > (mid : Int)) = true := decide_eq_true hg1
      obtain ⟨lo, hlo⟩ : ∃ lo : Nat, lo + b = n := ⟨n - b, by have := HN.out; omega⟩
      have hl : IntKind.i64.wrap ((n : Int) - (b : Int)) = (lo : Int) := by have := HN.out; rw [IntKind.wrap_i64]; omega
      have HLO : Aside _ := hlo
      clear hlo
      go_wp2
      go_meet
      case rel => exact ⟨lo, mid, rfl, rfl, .inr ⟨HLO.out, rfl, hmm⟩, S0⟩
    · have hg1 : ¬ (mid : Int) < (m : Int) := by omega
      have hg2 : decide ((m : Int) > (mid : Int)) = false := decide_eq_false hg1
      go_wp2
      go_meet
      case rel => exact ⟨a, m, rfl, rfl, .inl ⟨rfl, rfl, by omega⟩, S0⟩
  case rest => as_aux_lemma =>
    clear S0
    obtain ⟨lo, hi, rfl, rfl, hlh, S0⟩ := hcut
    have hb1 : lo ≤ hi ∧ a ≤ lo ∧ hi ≤ m ∧ hi ≤ mid ∧ n ≤ lo + b := by have := HN.out; omega
    obtain ⟨hb1, hb2, hb3, hb4, hb5⟩ := hb1
    have HLH : Aside _ := hlh
    clear hlh
    go_wp2
    go_loopg [20, 21] (hi - lo) (fun kx v20 v21 wr => ∃ (i j : Nat), v20 = .int .i64 i ∧ v21 = .int .i64 j ∧ lo ≤ i ∧ i ≤ j ∧ j ≤ hi ∧ j - i ≤ kx ∧ Aside (SW enc w0 blk off d wr) ∧ Aside (i = lo ∨ key d[i - 1]! ≤ key d[n - i]!) ∧ Aside (j = hi ∨ key d[n - j - 1]! < key d[j]!))
    case atStart => exact ⟨lo, hi, rfl, rfl, by omega, by omega, by omega, by omega, S0, .inl rfl, .inl rfl⟩
    case round =>
      clear S0
      obtain ⟨i, j, rfl, rfl, hi1, hij, hj, hkx, S1, HI, HJ⟩ := hrel
      by_cases hlt : i < j
      · have hltz : (i : Int) < (j : Int) := by omega
        have hd : decide ((i : Int) < (j : Int)) = true := decide_eq_true hltz
        have hw : IntKind.i64.wrap ((i : Int) + (j : Int)) = (i : Int) + (j : Int) := by rw [IntKind.wrap_i64]; omega
        obtain ⟨h, hh, hh1, hh2⟩ : ∃ h : Nat, ((i : Int) + (j : Int)) / 2 = (h : Int) ∧ i ≤ h ∧ h < j := ⟨(i + j) / 2, by omega, by omega, by omega⟩
        have hn0 := HN.out
        obtain ⟨e, he⟩ : ∃ e : Nat, e + h = p := ⟨p - h, by omega⟩
        have hpe : IntKind.i64.wrap ((p : Int) - (h : Int)) = (e : Int) := by rw [IntKind.wrap_i64]; omega
        have hed : e < d.size := by omega
        have hee : n - h - 1 = e := by omega
        have hee2 : n - (h + 1) = e := by omega
        have HE : Aside _ := And.intro he (And.intro hee hee2)
        clear hn0 he hee hee2
        go_wp2_with fail
        try rw [hh]
        by_cases hlv : cf d[e]! d[h]! < 0
        · have hlk := (HK.out _ _).1 hlv
          obtain ⟨iN1, hiN1⟩ : ∃ q, q = e := ⟨_, rfl⟩
          obtain ⟨jN1, hjN1⟩ : ∃ q, q = h := ⟨_, rfl⟩
          have ea1 : ((e : Int)).toNat = iN1 := by omega
          have pa1 : (0 : Int) ≤ (e : Int) := by omega
          have ba1 : (e : Int) < (d.size : Int) := by omega
          have ra1 : IntKind.i64.wrap ((e : Int)) = (e : Int) := by rw [IntKind.wrap_i64]; omega
          have ec1 : ((h : Int)).toNat = jN1 := by omega
          have pc1 : (0 : Int) ≤ (h : Int) := by omega
          have bc1 : (h : Int) < (d.size : Int) := by omega
          have rc1 : IntKind.i64.wrap ((h : Int)) = (h : Int) := by rw [IntKind.wrap_i64]; omega
          obtain ⟨x1, hx1⟩ : ∃ x, x = d[e]! := ⟨_, rfl⟩
          obtain ⟨y1, hy1⟩ : ∃ x, x = d[h]! := ⟨_, rfl⟩
          have l1a := S1.out.cl R (by omega) (e) (by omega)
          have l1b := S1.out.cl R (by omega) (h) (by omega)
          rw [← hx1, ← hiN1] at l1a
          rw [← hy1, ← hjN1] at l1b
          have hc1 := S1.out.cmp HC.out (by omega) x1 y1
          have hv1 : cf x1 y1 < 0 := by rw [hx1, hy1]; exact hlv
          have hd1 : decide (cf x1 y1 < 0) = true := decide_eq_true hv1
          clear hx1 hy1 hiN1 hjN1
          go_wp2_with fail
          go_quiet_grown (first | (go_at_fn g; refine Calls.grown_of (hc1 _ _)))
          have S2 : Aside (SW enc w0 blk off d (grow (wr.drewN nq) osq)) := S1.out.grown nq osq
          clear l1a l1b hc1 S1
          generalize grow (wr.drewN nq) osq = w2 at S2 ⊢
          clear nq osq
          clear ea1 ec1 pa1 ba1 ra1 pc1 bc1 rc1
          go_wp2
          go_roundg (h - i)
          case measure => omega
          case rel => exact ⟨i, h, rfl, rfl, hi1, hh1, by omega, Nat.le_refl _, S2, HI, .inr (by rw [HE.out.2.1]; exact hlk)⟩
        · have hlk := fun x => hlv ((HK.out d[e]! d[h]!).2 x)
          obtain ⟨iN2, hiN2⟩ : ∃ q, q = e := ⟨_, rfl⟩
          obtain ⟨jN2, hjN2⟩ : ∃ q, q = h := ⟨_, rfl⟩
          have ea2 : ((e : Int)).toNat = iN2 := by omega
          have pa2 : (0 : Int) ≤ (e : Int) := by omega
          have ba2 : (e : Int) < (d.size : Int) := by omega
          have ra2 : IntKind.i64.wrap ((e : Int)) = (e : Int) := by rw [IntKind.wrap_i64]; omega
          have ec2 : ((h : Int)).toNat = jN2 := by omega
          have pc2 : (0 : Int) ≤ (h : Int) := by omega
          have bc2 : (h : Int) < (d.size : Int) := by omega
          have rc2 : IntKind.i64.wrap ((h : Int)) = (h : Int) := by rw [IntKind.wrap_i64]; omega
          obtain ⟨x2, hx2⟩ : ∃ x, x = d[e]! := ⟨_, rfl⟩
          obtain ⟨y2, hy2⟩ : ∃ x, x = d[h]! := ⟨_, rfl⟩
          have l2a := S1.out.cl R (by omega) (e) (by omega)
          have l2b := S1.out.cl R (by omega) (h) (by omega)
          rw [← hx2, ← hiN2] at l2a
          rw [← hy2, ← hjN2] at l2b
          have hc2 := S1.out.cmp HC.out (by omega) x2 y2
          have hv2 : ¬ cf x2 y2 < 0 := by rw [hx2, hy2]; exact hlv
          have hd2 : decide (cf x2 y2 < 0) = false := decide_eq_false hv2
          clear hx2 hy2 hiN2 hjN2
          go_wp2_with fail
          go_quiet_grown (first | (go_at_fn g; refine Calls.grown_of (hc2 _ _)))
          have S2 : Aside (SW enc w0 blk off d (grow (wr.drewN nq) osq)) := S1.out.grown nq osq
          clear l2a l2b hc2 S1
          generalize grow (wr.drewN nq) osq = w2 at S2 ⊢
          clear nq osq
          clear ea2 ec2 pa2 ba2 ra2 pc2 bc2 rc2
          have hh3 : IntKind.i64.wrap ((h : Int) + 1) = ((h + 1 : Nat) : Int) := by rw [IntKind.wrap_i64]; omega
          go_wp2
          go_roundg (j - (h + 1))
          case measure => omega
          case rel => exact ⟨h + 1, j, by first | rfl | (with_reducible go_num) | (congr 1; omega), rfl, by omega, by omega, hj, Nat.le_refl _, S2, .inr (by rw [Nat.add_sub_cancel, HE.out.2.2]; exact Int.not_lt.1 hlk), HJ⟩
      · obtain rfl : i = j := by omega
        have hd : decide ((i : Int) < (i : Int)) = false := decide_eq_false (by omega)
        obtain ⟨t, ht⟩ : ∃ t : Nat, t + i = n := ⟨n - i, by have := HN.out; omega⟩
        have hts : IntKind.i64.wrap ((n : Int) - (i : Int)) = (t : Int) := by have := HN.out; rw [IntKind.wrap_i64]; omega
        have hfin : ∃ _ : True, m ≤ t ∧ t ≤ b ∧ i + (t - m) = mid ∧ (i = m ∨ t = m ∨ key d[t - 1]! < key d[i]!) ∧ (a = i ∨ t = b ∨ key d[i - 1]! ≤ key d[t]!) := by
          have hn0 := HN.out
          have hl0 := HLH.out
          refine ⟨trivial, by omega, by omega, by omega, ?_, ?_⟩
          · rcases HJ.out with HJ | HJ
            · omega
            · rw [show n - i - 1 = t - 1 by omega] at HJ
              exact .inr (.inr HJ)
          · rcases HI.out with HI | HI
            · omega
            · rw [show n - i = t by omega] at HI
              exact .inr (.inr HI)
        obtain ⟨_, ht1, ht2, hit, hP, hQ⟩ := hfin
        have HP : Aside _ := hP
        have HQ : Aside _ := hQ
        have HT : Aside _ := And.intro ht hit
        clear HI HJ HLH ht hP hQ hit
        go_upto_region 39 with (fail)
        go_cut [185] (fun v wc => v = .bool (decide (i < m ∧ m < t)) ∧ Aside (SW enc w0 blk off d wc))
        case first => as_aux_lemma =>
          by_cases c1 : i < m
          · by_cases c2 : m < t
            · have z1 := Int.ofNat_lt.2 c1
              have z2 := Int.ofNat_lt.2 c2
              have y1 := decide_eq_true z1
              have y2 := decide_eq_true z2
              have y3 : decide (i < m ∧ m < t) = true := decide_eq_true ⟨c1, c2⟩
              go_wp2
              go_meet
              case rel => exact ⟨by rw [y3], S1⟩
            · have z1 := Int.ofNat_lt.2 c1
              have z2 := fun h => c2 (Int.ofNat_lt.1 h)
              have y1 := decide_eq_true z1
              have y2 := decide_eq_false z2
              have y3 : decide (i < m ∧ m < t) = false := decide_eq_false (fun h => c2 h.2)
              go_wp2
              go_meet
              case rel => exact ⟨by rw [y3], S1⟩
          · have z1 := fun h => c1 (Int.ofNat_lt.1 h)
            have y1 := decide_eq_false z1
            have y3 : decide (i < m ∧ m < t) = false := decide_eq_false (fun h => c1 h.1)
            go_wp2
            go_meet
            case rel => exact ⟨by rw [y3], S1⟩
        case rest => as_aux_lemma =>
          clear S1
          obtain ⟨rfl, S1⟩ := hcut
          go_upto_if 185 with (fail)
          go_cut [] (fun wc => ∃ d1 : Array α, Aside (SW enc w0 blk off d1 wc) ∧ Aside (Rot i m t d.toList d1.toList))
          case first => as_aux_lemma =>
            by_cases hc : i < m ∧ m < t
            · have y3 : decide (i < m ∧ m < t) = true := decide_eq_true hc
              have hro := rotate enc (.func (.func g) #[] cb) blk off cap i m t d0 d w0 _ R hs S1.out hc.1 hc.2 (by omega) hsz
              go_wp2_with (go_at_call 154; refine hro.mono ?_; rintro e w1 ⟨rfl, d1, S2, HR⟩)
              go_meet
              case rel => exact ⟨d1, S2, HR⟩
            · have y3 : decide (i < m ∧ m < t) = false := decide_eq_false hc
              go_wp2
              go_meet
              case rel => exact ⟨d, S1, Rot.none (by omega) (by omega) (by omega) _⟩
          case rest => as_aux_lemma =>
            clear S1
            obtain ⟨d1, S1, HR⟩ := hcut
            have hz1 : d1.size = d.size := HR.out.size
            have hX := cross HR.out H1.out H2.out (by omega) (by omega) ht1 ht2 (by simpa using hb) (by
              rcases HP.out with h | h | h
              · exact .inl h
              · exact .inr (.inl h)
              · by_cases c : i < m ∧ m < t
                · refine .inr (.inr fun x y e f => ?_)
                  rw [get_bang (by omega)] at e f
                  injection e with e
                  injection f with f
                  rw [← e, ← f]; exact h
                · omega) (by
              rcases HQ.out with h | h | h
              · exact .inl h
              · exact .inr (.inl h)
              · by_cases c : a < i ∧ t < b
                · refine .inr (.inr fun x y e f => ?_)
                  rw [get_bang (by omega)] at e f
                  injection e with e
                  injection f with f
                  rw [← e, ← f]; exact h
                · omega)
            rw [HT.out.2] at hX
            have HX : Aside _ := hX
            clear hX HR HP HQ
            go_upto_region 41 with (fail)
            go_cut [199] (fun v wc => v = .bool (decide (a < i ∧ i < mid)) ∧ Aside (SW enc w0 blk off d1 wc))
            case first => as_aux_lemma =>
              by_cases c1 : a < i
              · by_cases c2 : i < mid
                · have z1 := Int.ofNat_lt.2 c1
                  have z2 := Int.ofNat_lt.2 c2
                  have y1 := decide_eq_true z1
                  have y2 := decide_eq_true z2
                  have y3 : decide (a < i ∧ i < mid) = true := decide_eq_true ⟨c1, c2⟩
                  go_wp2
                  go_meet
                  case rel => exact ⟨by rw [y3], S1⟩
                · have z1 := Int.ofNat_lt.2 c1
                  have z2 := fun h => c2 (Int.ofNat_lt.1 h)
                  have y1 := decide_eq_true z1
                  have y2 := decide_eq_false z2
                  have y3 : decide (a < i ∧ i < mid) = false := decide_eq_false (fun h => c2 h.2)
                  go_wp2
                  go_meet
                  case rel => exact ⟨by rw [y3], S1⟩
              · have z1 := fun h => c1 (Int.ofNat_lt.1 h)
                have y1 := decide_eq_false z1
                have y3 : decide (a < i ∧ i < mid) = false := decide_eq_false (fun h => c1 h.1)
                go_wp2
                go_meet
                case rel => exact ⟨by rw [y3], S1⟩
            case rest => as_aux_lemma =>
              clear S1
              obtain ⟨rfl, S1⟩ := hcut
              go_upto_if 199 with (fail)
              go_cut [] (fun wc => ∃ d2 : Array α, Aside (SW enc w0 blk off d2 wc) ∧ Aside (Ch key a mid d1.toList d2.toList ∧ So key a mid d2.toList))
              case first => as_aux_lemma =>
                by_cases hc : a < i ∧ i < mid
                · have y3 : decide (a < i ∧ i < mid) = true := decide_eq_true hc
                  have hro := IH.out a i mid d1 _ (by have := HT.out; have := HN.out; omega) (by omega) S1.out hc.1 hc.2 (by omega) HX.out.2.1 HX.out.2.2.1
                  rw [hz1] at hro
                  go_wp2_with (go_at_call 131; refine hro.mono ?_; rintro e w1 ⟨rfl, d2, S2, HR⟩)
                  go_meet
                  case rel => exact ⟨d2, S2, HR⟩
                · have y3 : decide (a < i ∧ i < mid) = false := decide_eq_false hc
                  go_wp2
                  go_meet
                  case rel =>
                    refine ⟨d1, S1, Ch.refl _ _ _ _, ?_⟩
                    by_cases c : a = i
                    · rw [c]; exact HX.out.2.2.1
                    · have : i = mid := by have := HT.out; have := HN.out; omega
                      rw [← this]; exact HX.out.2.1
              case rest => as_aux_lemma =>
                clear S1
                obtain ⟨d2, S1, HA⟩ := hcut
                have hz2 : d2.size = d.size := HA.out.1.size.trans hz1
                go_upto_region 43 with (fail)
                go_cut [213] (fun v wc => v = .bool (decide (mid < t ∧ t < b)) ∧ Aside (SW enc w0 blk off d2 wc))
                case first => as_aux_lemma =>
                  by_cases c1 : mid < t
                  · by_cases c2 : t < b
                    · have z1 := Int.ofNat_lt.2 c1
                      have z2 := Int.ofNat_lt.2 c2
                      have y1 := decide_eq_true z1
                      have y2 := decide_eq_true z2
                      have y3 : decide (mid < t ∧ t < b) = true := decide_eq_true ⟨c1, c2⟩
                      go_wp2
                      go_meet
                      case rel => exact ⟨by rw [y3], S1⟩
                    · have z1 := Int.ofNat_lt.2 c1
                      have z2 := fun h => c2 (Int.ofNat_lt.1 h)
                      have y1 := decide_eq_true z1
                      have y2 := decide_eq_false z2
                      have y3 : decide (mid < t ∧ t < b) = false := decide_eq_false (fun h => c2 h.2)
                      go_wp2
                      go_meet
                      case rel => exact ⟨by rw [y3], S1⟩
                  · have z1 := fun h => c1 (Int.ofNat_lt.1 h)
                    have y1 := decide_eq_false z1
                    have y3 : decide (mid < t ∧ t < b) = false := decide_eq_false (fun h => c1 h.1)
                    go_wp2
                    go_meet
                    case rel => exact ⟨by rw [y3], S1⟩
                case rest => as_aux_lemma =>
                  clear S1
                  obtain ⟨rfl, S1⟩ := hcut
                  have g1 : So key mid t d2.toList := HX.out.2.2.2.1.out HA.out.1 (.inr (Nat.le_refl _))
                  have g2 : So key t b d2.toList := HX.out.2.2.2.2.1.out HA.out.1 (.inr (by have := HT.out; have := HN.out; omega))
                  have G1 : Aside _ := g1
                  have G2 : Aside _ := g2
                  clear g1 g2
                  by_cases hc : mid < t ∧ t < b
                  · have y3 : decide (mid < t ∧ t < b) = true := decide_eq_true hc
                    have hro := IH.out mid t b d2 _ (by have := HT.out; have := HN.out; omega) (by omega) S1.out hc.1 hc.2 (by omega) G1.out G2.out
                    rw [hz2] at hro
                    go_wp2_with (go_at_call 131; refine hro.mono ?_; rintro e w1 ⟨rfl, d3, S2, HC2, HS2⟩)
                    go_end0
                    have hf := merged HA.out.1 HC2 HA.out.2 HS2 (by have := HT.out; omega) (by have := HT.out; omega) HX.out.2.2.2.2.2
                    exact ⟨rfl, d3, S2, (HX.out.1.wide (by omega) ht2).trans hf.1, hf.2⟩
                  · have y3 : decide (mid < t ∧ t < b) = false := decide_eq_false hc
                    go_wp2
                    go_end0
                    have hs3 : So key mid b d2.toList := by
                      by_cases c : mid = t
                      · rw [c]; exact G2.out
                      · have : t = b := by have := HT.out; have := HN.out; omega
                        rw [← this]; exact G1.out
                    have hf := merged HA.out.1 (Ch.refl key mid b _) HA.out.2 hs3 (by have := HT.out; omega) (by have := HT.out; omega) HX.out.2.2.2.2.2
                    exact ⟨rfl, d2, S1.out, (HX.out.1.wide (by omega) ht2).trans hf.1, hf.2⟩
set_option maxHeartbeats 8000000 in
set_option maxRecDepth 1000000 in
/-- slices.symMergeCmpFunc at elements of one cell. -/
theorem merge (enc : α → Value) (cf : α → α → Int) (key : α → Int) (hk : ∀ x y, cf x y < 0 ↔ key x < key y) (g : Nat) (cb : Array Value) (blk off cap : Nat) (d0 : Array α) (w0 : World)
    (eg : ∀ args w, (callFunc g args).run Tryz.prog w = .ok (.enter g args) w) (hcmp : CmpLays1 Tryz.prog g cb enc cf blk off d0.size w0) (R : Row1 enc w0 blk off d0) (hsz : d0.size < 4611686018427387904) :
    ∀ (n a m b : Nat) (d : Array α) (w : World), b - a ≤ n → d0.size = d.size → SW enc w0 blk off d w → a < m → m < b → b ≤ d.size → So key a m d.toList → So key m b d.toList →
      Calls Tryz.prog 131 #[.slice (some ⟨blk, off, none⟩) d.size cap, .int .i64 a, .int .i64 m, .int .i64 b, .func (.func g) #[] cb] w fun e w' => e = .returned (.tuple #[]) ∧ ∃ d', SW enc w0 blk off d' w' ∧ Ch key a b d.toList d'.toList ∧ So key a b d'.toList := by
  intro n
  induction n with
  | zero => intro a m b d w h _ _ h1 h2; omega
  | succ n ih =>
    intro a m b d w hn hs S ham hmb hb h1 h2
    by_cases c : m = a + 1
    · subst c
      exact merge_a enc cf key hk g cb blk off cap d0 w0 eg hcmp R a b d w hs S hmb hb (by omega) h1 h2
    by_cases c2 : b = m + 1
    · subst c2
      exact merge_b enc cf key hk g cb blk off cap d0 w0 eg hcmp R a m d w hs S (by omega) hb (by omega) h1 h2
    · exact merge_c enc cf key hk g cb blk off cap d0 w0 eg hcmp R a m b d w hs S (by omega) (by omega) hb (by omega) h1 h2 (fun a' m' b' d1 w1 h => ih a' m' b' d1 w1 (by omega))
end Go.Proofs.YthnlkgbhohchoaaGreat.Stw
