/- A program whose rows lie apart is marked: what it holds then, and that the marks are put so. Conditions: none. -/
import Derived.Test.YtcjlbgbenjmkgaaVFnExactBuildProgramQFnExactBuildProgramx
namespace Go.Proofs.Ytcjlbgbenjmkgaa.QFnExactBuildProgram
open Go.RowKit Go.Proofs.YtcjlbgbenjmkgaaW.PrintWords Go.Proofs.YtcjlbgbenjmkgaaW.PrintLast Go.Proofs.YtcjlbgbenjmkgaaW.PrintMore Go.Proofs.Ytcjlbgbenjmkgaa.Open Go.Proofs.Ytcjlbgbenjmkgaa.Sq
set_option linter.unusedVariables false
def laws_markProgram.lt : Nat → List S63 → Int → Int → Option (Int × List S63)
  | 0, _, _, _ => none
  | k + 1, l, i, a => if i < (l.length : Int) then (laws_markIntS.f k (rd_T63 l i).f1 (wrap64 (a + 1))).bind fun p => (laws_markIntS.f k (rd_T63 l i).f2 p.1).bind fun q => laws_markProgram.lt k (l.set i.toNat ⟨a, p.2, q.2⟩) (i + 1) q.1 else some (a, l)
def laws_markProgram.lp : Nat → List S47 → Int → Int → Option (Int × List S47)
  | 0, _, _, _ => none
  | k + 1, l, i, a => if i < (l.length : Int) then (laws_markLinkS.f k (rd_T47 l i).f1 (wrap64 (wrap64 (a + 1) + 1))).bind fun p => (laws_markProgram.lt k (rd_T47 l i).f2 0 p.1).bind fun q => laws_markProgram.lp k (l.set i.toNat ⟨⟨a, wrap64 (a + 1)⟩, p.2, q.2⟩) (i + 1) q.1 else some (a, l)
/-- An int row of the call's own keeps to the blocks that it was told of. -/
theorem reok {α : Type} {d : Kd α} {e base : Nat} {W w : World} {ok ok1 : Nat → Prop} {v : Value} {xs ys : List α} (hE : d.E = []) (h0 : d.R e W base ok v ys) (h : d.R e w base ok1 v xs) : d.R e w base ok v xs := Kd.R_reok hE h (fun k hk => h0.1 k hk)
set_option maxHeartbeats 8000000 in
set_option maxRecDepth 100000 in
theorem laws_markProgram.tables (k0 : Nat) (P : Nat → Prop) (w0 w : World) (v : Value) (l : List S63) (a s1 : Int) (s2 : List S63) (hB : Below w0.heap.size w0 w) (ho : Kd.S k63 63 w w0.heap.size P v l) (h : laws_markProgram.lt k0 l 0 a = some (s1, s2)) :
    Calls Try.prog 48 #[v, .int .i64 a] w fun e w' => e = .returned (.int .i64 s1) ∧ Kd.S k63 63 w' w0.heap.size P v s2 ∧ Below w0.heap.size w0 w' ∧ Kept w w' P := by
  have hu := Try.underlying63
  obtain ⟨A, c, rfl⟩ := Kd.S_slice ho
  have hm : l.length ≤ 9223372036854775807 := (let ⟨_, _, _, _, q_⟩ := Kd.S_reads ho; q_.2.1)
  generalize hn_ : l.length = n at *
  have hn := Aside0.mk hn_
  clear hn_
  go_enter Try.func48, Try.ntmps48
  go_wp2
  go_loopg [1, 5] n (fun gg v1 v5 wr => ∃ (i a' : Int) (kq : Nat) (l' : List S63), 0 ≤ i ∧ i ≤ (n : Int) ∧ (n : Int) - i ≤ gg ∧ v5 = .int .i64 i ∧ v1 = .int .i64 a' ∧ l'.length = n ∧ Aside0 (laws_markProgram.lt kq l' i a' = some (s1, s2)) ∧ Aside0 (Kd.S k63 63 wr w0.heap.size P (.slice A n c) l') ∧ Aside0 (Below w0.heap.size w0 wr) ∧ Aside0 (Kept w wr P))
  case atStart => exact ⟨0, a, k0, l, by omega, by omega, by omega, rfl, rfl, hn.out, ⟨h⟩, ⟨ho⟩, ⟨hB⟩, ⟨Kept.refl w P⟩⟩
  case round =>
    obtain ⟨i, a', kq, l', h0, h1, hg, rfl, rfl, hl, HL, HS, HB, HK⟩ := hrel
    cases kq with
    | zero => exact absurd HL.out (by simp [laws_markProgram.lt])
    | succ kq =>
    by_cases hlt : i < (n : Int)
    · have HL' := HL.out
      rw [laws_markProgram.lt, if_pos (by rw [hl]; exact hlt)] at HL'
      obtain ⟨⟨p1, p2⟩, hp, HL'⟩ := Option.bind_eq_some_iff.1 HL'
      obtain ⟨⟨q1, q2⟩, hq, HL2_⟩ := Option.bind_eq_some_iff.1 HL'
      have HL2 := Aside0.mk HL2_
      clear HL' HL2_
      have hq' := Aside0.mk hq
      have hp' := Aside0.mk hp
      clear hp hq
      obtain ⟨g, cap, e, hgb, hgl, cs, hcs⟩ := Kd.S_form HS.out (by omega)
      injection e with e1 e2 e3
      subst e1
      subst e3
      replace hl := Aside0.mk hl
      clear e2
      have hPg : P g := (Kd.S_R HS.out).1 g rfl
      obtain ⟨oki, ce, hcl, hM, hcc, hoki, hH⟩ := Kd.S_lend HS.out z63 i h0 hlt
      obtain ⟨pp, v1, v2, rfl, r1, r2⟩ := k63_openM hM
      have hrd : (l'.getD i.toNat z63) = rd_T63 l' i := rfl
      rw [hrd] at r1 r2 hH hcc
      generalize rd_T63 l' i = x at *
      have hf : wr.frozen? ⟨g, i.toNat * 3, none⟩ = false := blk_frozen hcs _
      have hx0 : wr.cell? ⟨g, i.toNat * 3, none⟩ = some (.int .i64 x.f0) := hcc 0 _ rfl
      obtain ⟨A1, c1, rfl⟩ := Kd.R_slice r1
      obtain ⟨A2, c2, rfl⟩ := Kd.R_slice r2
      replace hH := Aside0.mk hH
      replace r1 := Aside0.mk r1
      replace r2 := Aside0.mk r2
      replace hoki := Aside0.mk hoki
      clear hcc hM hcl hcs
      have p5 : (0 ≤ i) = True := eq_true h0
      have q5 : (i < (n : Int)) = True := eq_true hlt
      have hd : decide (i < (n : Int)) = true := decide_eq_true hlt
      go_wp2_with (first | ((with_reducible refine gate_store (t := 3) (p := 16) rfl ?_); refine store_event (t := 3) (p := 16) (v := ?vo_w8) (w1 := (wr.setCell ⟨g, i.toNat * 3, none⟩ (.int .i64 a'))) ?hg ?ho ?hn ?hr ?_; (case ho => rfl); (case hg => rfl); (case hn => rfl); (case hr => first | (go_simp; done) | (go_simp; rfl)); intro w8 hw; have hS8 := Kd.H_seg hH.out h0 hlt (seg := [.int .i64 a']) (j := 0) (by show 0 + 1 ≤ 3; omega) (by intro q hq_; rw [List.mem_singleton.1 hq_]; rfl); rw [show wr.setCells g (i.toNat * Kd.sz k63 + 0) [.int .i64 a'] = w8 from hw.symm] at hS8; have hH8 : Aside0 (Kd.H k63 63 w8 w0.heap.size P (.slice (some ⟨g, 0, none⟩) n c) l' i oki [.int .i64 a', .slice A1 x.f1.length c1, .slice A2 x.f2.length c2]) := ⟨hS8.1⟩; have r18 := Aside0.mk (Kd.R_grown r1.out hS8.2 (fun k hk he => (hoki.out k hk.1).2 (by injection he))); have r28 := Aside0.mk (Kd.R_grown r2.out hS8.2 (fun k hk he => (hoki.out k hk.1).2 (by injection he))); have HB2 := Aside0.mk ((by rw [hw]; exact below_set HB.out hgb) : Below w0.heap.size w0 w8); have HK2 := Aside0.mk ((by rw [hw]; exact Kept.setCell HK.out (.inl hPg) _) : Kept w w8 P); clear hS8 hw; have hc1 : w8.cell? ⟨g, i.toNat * 3 + 1, none⟩ = some (.slice A1 x.f1.length c1) := (let ⟨_, _, _, _, _, q_, _⟩ := Kd.H_raw hH8.out h0 hlt; q_ 1 _ rfl)) | ((with_reducible refine gate_dst (N := 25) rfl ?_); (with_reducible refine gate_callee (f := 64) rfl ?_); refine goesL_ (some 25) rfl rfl Try.func64 (by kernel_rfl) rfl #[.slice A1 x.f1.length c1, .int .i64 (wrap64 (a' + 1))] rfl (by (try simp only [List.map_toArray, List.map_cons, List.map_nil]); first | done | rfl | (go_simp; rfl)) ?_; refine (laws_markIntS.calls kq _ _ x.f1 _ p1 p2 w0 w8 HB2.out r18.out hp'.out).mono ?_; rintro e w9 ⟨rfl, ho9, hb9, hk9⟩; refine ⟨_, rfl, ?_⟩; have HB3 := Aside0.mk hb9; have r19 := Aside0.mk (reok rfl r18.out ho9); have r29 := Aside0.mk (Kd.R_kept r28.out hk9 (fun k hk h_ => hk.2 h_.2)); have hH9 := Aside0.mk (Kd.H_step hH8.out (fun k _ hno hlt_ => hk9.2 k hlt_ (fun h_ => hno h_.1))); have HK3 := Aside0.mk (Kept.then_ HK2.out hk9 (fun k hk => .inl (hoki.out k hk.1).1)); clear hb9 hk9 ho9; have hc2 : w9.cell? ⟨g, i.toNat * 3 + 2, none⟩ = some (.slice A2 x.f2.length c2) := (let ⟨_, _, _, _, _, q_, _⟩ := Kd.H_raw hH9.out h0 hlt; q_ 2 _ rfl)) | ((with_reducible refine gate_callee (f := 64) rfl ?_); refine goesL_ _ rfl rfl Try.func64 (by kernel_rfl) rfl #[.slice A2 x.f2.length c2, .int .i64 p1] rfl (by (try simp only [List.map_toArray, List.map_cons, List.map_nil]); first | done | rfl | (go_simp; rfl)) ?_; refine (laws_markIntS.calls kq _ _ x.f2 _ q1 q2 w0 w9 HB3.out r29.out hq'.out).mono ?_; rintro e w10 ⟨rfl, ho10, hb10, hk10⟩; refine ⟨_, rfl, ?_⟩; have HB4 := Aside0.mk hb10; have r210 := Aside0.mk (reok rfl r29.out ho10); have r110 := Aside0.mk (Kd.R_kept r19.out hk10 (fun k hk h_ => h_.2 hk.2)); have hH10 := Aside0.mk (Kd.H_step hH9.out (fun k _ hno hlt_ => hk10.2 k hlt_ (fun h_ => hno h_.1))); have HK4 := Aside0.mk (Kept.then_ HK3.out hk10 (fun k hk => .inl (hoki.out k hk.1).1)); clear hb10 hk10 ho10))
      go_roundg (n - (i.toNat + 1))
      case measure => omega
      case rel =>
        exact ⟨i + 1, q1, kq, l'.set i.toNat ⟨a', p2, q2⟩, by omega, by omega, by omega, by go_num, rfl, by rw [List.length_set]; exact hl.out, HL2, ⟨Kd.H_back hH10.out (x' := ⟨a', p2, q2⟩) (k63_mkP _ _ _ ⟨a', p2, q2⟩ pp r110.out r210.out) (fun _ h_ => h_)⟩, HB4, HK4⟩
    · have : i = (n : Int) := by omega
      subst this
      have hd : decide ((n : Int) < (n : Int)) = false := decide_eq_false (by omega)
      have HL' := HL.out
      rw [laws_markProgram.lt, if_neg (by rw [hl]; exact hlt)] at HL'
      injection HL' with HL'
      injection HL' with e1 e2
      subst e1
      subst e2
      go_wp2
      go_ret
      exact ⟨rfl, HS.out, HB.out, HK.out⟩
set_option maxHeartbeats 8000000 in
set_option maxRecDepth 100000 in
theorem laws_markProgram.pieces (k0 : Nat) (P : Nat → Prop) (w0 w : World) (v : Value) (l : List S47) (a s1 : Int) (s2 : List S47) (hB : Below w0.heap.size w0 w) (ho : Kd.S k47 47 w w0.heap.size P v l) (h : laws_markProgram.lp k0 l 0 a = some (s1, s2)) :
    Calls Try.prog 28 #[v, .int .i64 a] w fun e w' => e = .returned (.int .i64 s1) ∧ Kd.S k47 47 w' w0.heap.size P v s2 ∧ Below w0.heap.size w0 w' ∧ Kept w w' P := by
  have hu := Try.underlying47
  have hus := Try.underlying43
  obtain ⟨A, c, rfl⟩ := Kd.S_slice ho
  have hm : l.length ≤ 9223372036854775807 := (let ⟨_, _, _, _, q_⟩ := Kd.S_reads ho; q_.2.1)
  generalize hn_ : l.length = n at *
  have hn := Aside0.mk hn_
  clear hn_
  go_enter Try.func28, Try.ntmps28
  go_wp2
  go_loopg [1, 5] n (fun gg v1 v5 wr => ∃ (i a' : Int) (kq : Nat) (l' : List S47), 0 ≤ i ∧ i ≤ (n : Int) ∧ (n : Int) - i ≤ gg ∧ v5 = .int .i64 i ∧ v1 = .int .i64 a' ∧ l'.length = n ∧ Aside0 (laws_markProgram.lp kq l' i a' = some (s1, s2)) ∧ Aside0 (Kd.S k47 47 wr w0.heap.size P (.slice A n c) l') ∧ Aside0 (Below w0.heap.size w0 wr) ∧ Aside0 (Kept w wr P))
  case atStart => exact ⟨0, a, k0, l, by omega, by omega, by omega, rfl, rfl, hn.out, ⟨h⟩, ⟨ho⟩, ⟨hB⟩, ⟨Kept.refl w P⟩⟩
  case round =>
    obtain ⟨i, a', kq, l', h0, h1, hg, rfl, rfl, hl, HL, HS, HB, HK⟩ := hrel
    cases kq with
    | zero => exact absurd HL.out (by simp [laws_markProgram.lp])
    | succ kq =>
    by_cases hlt : i < (n : Int)
    · have HL' := HL.out
      rw [laws_markProgram.lp, if_pos (by rw [hl]; exact hlt)] at HL'
      obtain ⟨⟨p1, p2⟩, hp, HL'⟩ := Option.bind_eq_some_iff.1 HL'
      obtain ⟨⟨q1, q2⟩, hq, HL2_⟩ := Option.bind_eq_some_iff.1 HL'
      have HL2 := Aside0.mk HL2_
      clear HL' HL2_
      have hq' := Aside0.mk hq
      have hp' := Aside0.mk hp
      clear hp hq
      obtain ⟨g, cap, e, hgb, hgl, cs, hcs⟩ := Kd.S_form HS.out (by omega)
      injection e with e1 e2 e3
      subst e1
      subst e3
      replace hl := Aside0.mk hl
      clear e2
      have hPg : P g := (Kd.S_R HS.out).1 g rfl
      obtain ⟨oki, ce, hcl, hM, hcc, hoki, hH⟩ := Kd.S_lend HS.out z47 i h0 hlt
      obtain ⟨v1, v2, rfl, r1, r2⟩ := k47_openM hM
      have hrd : (l'.getD i.toNat z47) = rd_T47 l' i := rfl
      rw [hrd] at r1 r2 hH hcc
      generalize rd_T47 l' i = x at *
      have hf : wr.frozen? ⟨g, i.toNat * 4, none⟩ = false := blk_frozen hcs _
      have hx0 : wr.cell? ⟨g, i.toNat * 4, none⟩ = some (.int .i64 x.f0.f0) := hcc 0 _ rfl
      have r2a := Kd.S_apart' r2 (Kd.R_typed r1) (by decide)
      have r1a := Kd.R_tight2 rfl r1
      clear r1 r2
      obtain ⟨A1, c1, rfl⟩ := Kd.R_slice r1a
      obtain ⟨A2, c2, rfl⟩ := Kd.S_slice r2a
      replace hH := Aside0.mk hH
      have r1 := Aside0.mk r1a
      have r2 := Aside0.mk r2a
      replace hoki := Aside0.mk hoki
      clear hcc hM hcl hcs r1a r2a
      have p5 : (0 ≤ i) = True := eq_true h0
      have q5 : (i < (n : Int)) = True := eq_true hlt
      have hd : decide (i < (n : Int)) = true := decide_eq_true hlt
      go_wp2_with (first | ((with_reducible refine gate_store (t := 3) (p := 17) rfl ?_); refine store_event (t := 3) (p := 17) (v := ?vo_w8) (w1 := (wr.setCell ⟨g, i.toNat * 4, none⟩ (.int .i64 a'))) ?hg ?ho ?hn ?hr ?_; (case ho => rfl); (case hg => rfl); (case hn => rfl); (case hr => first | (go_simp; done) | (go_simp; rfl)); intro w7 hw; have hS8 := Kd.H_seg hH.out h0 hlt (seg := [.int .i64 a']) (j := 0) (by show 0 + 1 ≤ 4; omega) (by intro q hq_; rw [List.mem_singleton.1 hq_]; rfl); rw [show wr.setCells g (i.toNat * Kd.sz k47 + 0) [.int .i64 a'] = w7 from hw.symm] at hS8; have hH7 : Aside0 (Kd.H k47 47 w7 w0.heap.size P (.slice (some ⟨g, 0, none⟩) n c) l' i oki [.int .i64 a', .int .i64 x.f0.f1, .slice A1 x.f1.length c1, .slice A2 x.f2.length c2]) := ⟨hS8.1⟩; have r17 := Aside0.mk (Kd.R_grown r1.out hS8.2 (fun k hk he => (hoki.out k hk.2).2 (by injection he))); have r27 := Aside0.mk (Kd.S_grown r2.out hS8.2 (fun k hk he => (hoki.out k hk.1).2 (by injection he))); have HB1 := Aside0.mk ((by rw [hw]; exact below_set HB.out hgb) : Below w0.heap.size w0 w7); have HK1 := Aside0.mk ((by rw [hw]; exact Kept.setCell HK.out (.inl hPg) _) : Kept w w7 P); clear hS8 hw; have hy0 : w7.cell? ⟨g, i.toNat * 4 + 1, none⟩ = some (.int .i64 x.f0.f1) := (let ⟨_, _, _, _, _, q_, _⟩ := Kd.H_raw hH7.out h0 hlt; q_ 1 _ rfl); have hf2 : w7.frozen? ⟨g, i.toNat * 4 + 1, none⟩ = false := (let ⟨_, _, hraw_, _⟩ := Kd.H_raw hH7.out h0 hlt; (Kd.R_typed hraw_ g rfl).elim (fun _ hc_ => blk_frozen hc_ _))) | ((with_reducible refine gate_store (t := 3) (p := 25) rfl ?_); refine store_event (t := 3) (p := 25) (v := ?vo_w9) (w1 := (w7.setCell ⟨g, i.toNat * 4 + 1, none⟩ (.int .i64 (wrap64 (a' + 1))))) ?hg ?ho ?hn ?hr ?_; (case ho => rfl); (case hg => rfl); (case hn => rfl); (case hr => first | (go_simp; done) | (go_simp; rfl)); intro w8 hw; have hS8 := Kd.H_seg hH7.out h0 hlt (seg := [.int .i64 (wrap64 (a' + 1))]) (j := 1) (by show 1 + 1 ≤ 4; omega) (by intro q hq_; rw [List.mem_singleton.1 hq_]; rfl); rw [show w7.setCells g (i.toNat * Kd.sz k47 + 1) [.int .i64 (wrap64 (a' + 1))] = w8 from hw.symm] at hS8; have hH8 : Aside0 (Kd.H k47 47 w8 w0.heap.size P (.slice (some ⟨g, 0, none⟩) n c) l' i oki [.int .i64 a', .int .i64 (wrap64 (a' + 1)), .slice A1 x.f1.length c1, .slice A2 x.f2.length c2]) := ⟨hS8.1⟩; have r18 := Aside0.mk (Kd.R_grown r17.out hS8.2 (fun k hk he => (hoki.out k hk.2).2 (by injection he))); have r28 := Aside0.mk (Kd.S_grown r27.out hS8.2 (fun k hk he => (hoki.out k hk.1).2 (by injection he))); have HB2 := Aside0.mk ((by rw [hw]; exact below_set HB1.out hgb) : Below w0.heap.size w0 w8); have HK2 := Aside0.mk ((by rw [hw]; exact Kept.setCell HK1.out (.inl hPg) _) : Kept w w8 P); clear hS8 hw; have hc1 : w8.cell? ⟨g, i.toNat * 4 + 2, none⟩ = some (.slice A1 x.f1.length c1) := (let ⟨_, _, _, _, _, q_, _⟩ := Kd.H_raw hH8.out h0 hlt; q_ 2 _ rfl)) | ((with_reducible refine gate_callee (f := 47) rfl ?_); refine goesL_ _ rfl rfl Try.func47 (by kernel_rfl) rfl #[.slice A1 x.f1.length c1, .int .i64 (wrap64 (wrap64 (a' + 1) + 1))] rfl (by (try simp only [List.map_toArray, List.map_cons, List.map_nil]); first | done | rfl | (go_simp; rfl)) ?_; refine (laws_markLinkS.calls kq _ _ x.f1 _ p1 p2 w0 w8 HB2.out r18.out hp'.out).mono ?_; rintro e w9 ⟨rfl, ho9, hb9, hk9⟩; refine ⟨_, rfl, ?_⟩; have HB3 := Aside0.mk hb9; have r19 := Aside0.mk (reok rfl r18.out ho9); have r29 := Aside0.mk (Kd.S_kept r28.out hk9 (fun k hk h_ => hk.2 h_.1)); have hH9 := Aside0.mk (Kd.H_step hH8.out (fun k _ hno hlt_ => hk9.2 k hlt_ (fun h_ => hno h_.2))); have HK3 := Aside0.mk (Kept.then_ HK2.out hk9 (fun k hk => .inl (hoki.out k hk.2).1)); clear hb9 hk9 ho9; have hc2 : w9.cell? ⟨g, i.toNat * 4 + 3, none⟩ = some (.slice A2 x.f2.length c2) := (let ⟨_, _, _, _, _, q_, _⟩ := Kd.H_raw hH9.out h0 hlt; q_ 3 _ rfl)) | ((with_reducible refine gate_callee (f := 48) rfl ?_); refine goesL_ _ rfl rfl Try.func48 (by kernel_rfl) rfl #[.slice A2 x.f2.length c2, .int .i64 p1] rfl (by (try simp only [List.map_toArray, List.map_cons, List.map_nil]); first | done | rfl | (go_simp; rfl)) ?_; refine (laws_markProgram.tables kq _ w0 w9 _ x.f2 _ q1 q2 HB3.out r29.out hq'.out).mono ?_; rintro e w10 ⟨rfl, ho10, hb10, hk10⟩; refine ⟨_, rfl, ?_⟩; have HB4 := Aside0.mk hb10; have r210 := Aside0.mk ho10; have r110 := Aside0.mk (Kd.R_kept r19.out hk10 (fun k hk h_ => h_.2 hk.1)); have hH10 := Aside0.mk (Kd.H_step hH9.out (fun k _ hno hlt_ => hk10.2 k hlt_ (fun h_ => hno h_.1))); have HK4 := Aside0.mk (Kept.then_ HK3.out hk10 (fun k hk => .inl (hoki.out k hk.1).1)); clear hb10 hk10 ho10))
      go_roundg (n - (i.toNat + 1))
      case measure => omega
      case rel =>
        exact ⟨i + 1, q1, kq, l'.set i.toNat ⟨⟨a', wrap64 (a' + 1)⟩, p2, q2⟩, by omega, by omega, by omega, by go_num, rfl, by rw [List.length_set]; exact hl.out, HL2, ⟨Kd.H_back hH10.out (x' := ⟨⟨a', wrap64 (a' + 1)⟩, p2, q2⟩) (k47_mkM _ _ _ ⟨⟨a', wrap64 (a' + 1)⟩, p2, q2⟩ (Kd.R_mono r110.out (fun _ hk => hk.2)) (Kd.S_mono r210.out (fun _ hk => hk.1))) (fun _ h_ => h_)⟩, HB4, HK4⟩
    · have : i = (n : Int) := by omega
      subst this
      have hd : decide ((n : Int) < (n : Int)) = false := decide_eq_false (by omega)
      have HL' := HL.out
      rw [laws_markProgram.lp, if_neg (by rw [hl]; exact hlt)] at HL'
      injection HL' with HL'
      injection HL' with e1 e2
      subst e1
      subst e2
      go_wp2
      go_ret
      exact ⟨rfl, HS.out, HB.out, HK.out⟩
set_option maxHeartbeats 8000000 in
set_option maxRecDepth 100000 in
theorem laws_markProgram.calls (k0 : Nat) (a0_0 a0_1 a0_2 : Int) (P : Nat → Prop) (v : Value) (l : List S47) (a s1 : Int) (s2 : List S47) (w0 w : World) (hB : Below w0.heap.size w0 w) (ho : Kd.S k47 47 w w0.heap.size P v l) (h : laws_markProgram.lp k0 l 0 a = some (s1, s2)) :
    Calls Try.prog 11 #[.agg #[.int .i64 a0_0, .int .i64 a0_1, .int .i64 a0_2, v], .int .i64 a] w fun e w' => e = .returned (.int .i64 s1) ∧ Kd.S k47 47 w' w0.heap.size P v s2 ∧ Below w0.heap.size w0 w' ∧ Kept w w' P := by
  have hu := Try.underlying26
  obtain ⟨A, c, rfl⟩ := Kd.S_slice ho
  have HO := Aside0.mk ho
  have HB := Aside0.mk hB
  have HH := Aside0.mk h
  clear ho hB h
  go_enter Try.func11, Try.ntmps11
  go_wp2_with (first | ((with_reducible refine gate_dst (N := 2) rfl ?_); refine box_event ?hg (N := 2) ?hd (cs := #[.int .i64 a0_0, .int .i64 a0_1, .int .i64 a0_2, .slice A l.length c]) (t := 26) ?hr ?_; (case hd => rfl); (case hg => rfl); (case hr => first | (go_simp; done) | (go_simp; rfl)); intro gbx hg w3 hbox hb3; have hc3 : w3.cell? ⟨gbx, 3, none⟩ = some (.slice A l.length c) := (blk_cell hbox 3).trans rfl; have HB3 := Aside0.mk (below_then HB.out HB.out.size hb3); have HO3 := Aside0.mk (Kd.S_below HO.out hb3); have HK3 := Aside0.mk (Kept.of_below hb3 P); clear hb3 hbox hg) | ((with_reducible refine gate_callee (f := 28) rfl ?_); refine goesL_ _ rfl rfl Try.func28 (by kernel_rfl) rfl #[.slice A l.length c, .int .i64 a] rfl (by (try simp only [List.map_toArray, List.map_cons, List.map_nil]); first | done | rfl | (go_simp; rfl)) ?_; refine (laws_markProgram.pieces k0 P w0 w3 _ l a s1 s2 HB3.out HO3.out HH.out).mono ?_; rintro e w4 ⟨rfl, ho4, hb4, hk4⟩; refine ⟨_, rfl, ?_⟩; have HO4 := Aside0.mk ho4; have HB4 := Aside0.mk hb4; have HK4 := Aside0.mk (Kept.then_ HK3.out hk4 (fun _ hk => .inl hk)); clear hb4 hk4 ho4))
  go_ret
  exact ⟨rfl, HO4.out, HB4.out, HK4.out⟩
end Go.Proofs.Ytcjlbgbenjmkgaa.QFnExactBuildProgram
