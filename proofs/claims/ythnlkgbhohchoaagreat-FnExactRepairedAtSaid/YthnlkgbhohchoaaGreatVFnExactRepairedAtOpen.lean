/- Words of the kit's printer (or of the session's own), as far as the law FnExactRepairedAt names them. Conditions: none. (tight). -/
import Derived.Test.YthnlkgbhohchoaaGreatVFnExactRepairedAtWWords
import Derived.SizedLaws
import Derived.ChangeArms
import Derived.ChangeSlices
namespace Go.Proofs.YthnlkgbhohchoaaGreat.Open
open Go.RowKit Go.Proofs.YthnlkgbhohchoaaGreatW.PrintWords
open Go.ChangeShapes Go.WideShapes
structure Opens (P : Program) (t : TypeId) {α : Type} (d : Kd α) (g : α → Prop) : Prop where
 out : ∀ {H : Type} {enc : TypeId × Value → H} {w : World} {base : Nat} {spare : Nat → Bool} {held : Bool} {fuel : Nat} {cs : List Value} {x : DataW H × List MemPlace},
  DataW.trod enc P w base spare held fuel t cs = some x → (∀ n ∈ x.1.weights P t, n ≤ reachBytes) → ∃ a, d.K w a cs ∧ g a
theorem Opens.int {P : Program} {t : TypeId} {k : IntKind} (ht : P.underlying t = some (.int k)) : Opens P t (Kd.int k) (fun n => (Lit.int k n).wf = true) := by
 constructor
 intro H enc w base spare held fuel cs x h _
 obtain ⟨n, rfl, _, hw⟩ := DataW.trod_int ht h
 exact ⟨n, rfl, hw⟩
theorem Opens.bool {P : Program} {t : TypeId} (ht : P.underlying t = some .bool) : Opens P t Kd.bool (fun _ => True) := by
 constructor
 intro H enc w base spare held fuel cs x h _
 obtain ⟨n, rfl, _⟩ := DataW.trod_bool ht h
 exact ⟨n, rfl, trivial⟩
theorem Opens.imp {P : Program} {t : TypeId} {α : Type} {d : Kd α} {g g' : α → Prop} (h : Opens P t d g) (hg : ∀ a, g a → g' a) : Opens P t d g' := by
 constructor
 intro H enc w base spare held fuel cs x hx hw
 obtain ⟨a, ha, hga⟩ := h.out hx hw
 exact ⟨a, ha, hg a hga⟩
theorem weights_mem_all {H : Type} {P : Program} {e : TypeId} : ∀ {ds : List (DataW H)} {j : Nat} {d : DataW H}, ds[j]? = some d → ∀ n ∈ d.weights P e, n ∈ DataW.weightsAll P e ds
 | [], _, _, h, _, _ => by simp at h
 | d0 :: ds, 0, d, h, n, hn => by
  simp only [List.getElem?_cons_zero, Option.some.injEq] at h
  subst h
  simp only [DataW.weightsAll, List.mem_append]
  exact Or.inl hn
 | d0 :: ds, j + 1, d, h, n, hn => by
  simp only [List.getElem?_cons_succ] at h
  simp only [DataW.weightsAll, List.mem_append]
  exact Or.inr (weights_mem_all h n hn)
theorem cells_get {w : World} {base n : Nat} {a : Addr} {cs : List Value} (h : w.cells? base a n = some cs) : cs.length = n ∧ ∀ i, i < n → w.cell? (a.add i) = cs[i]? := by
 unfold World.cells? at h
 by_cases hb : base ≤ a.block
 ·rw [if_pos hb] at h
  refine ⟨by simpa using mapM_some_length h, fun i hi => mapM_some_get h i i (by simp [hi])⟩
 ·rw [if_neg hb] at h
  cases h
theorem addr_add_add (a : Addr) (i j : Nat) : (a.add i).add j = a.add (i + j) := by
 unfold Addr.add
 by_cases hi : i = 0 <;> by_cases hj : j = 0 <;> simp [hi, hj, Nat.add_assoc]
theorem Opens.slice {P : Program} {t e : TypeId} {α : Type} {d : Kd α} {g : α → Prop} (ht : P.underlying t = some (.slice e)) (hd : Opens P e d g) (hs : P.cellsOf e = d.sz) {B : Nat} (hB : P.bytesOf e = B) :
  Opens P t (Kd.slice e d) (fun l => (∀ a ∈ l, g a) ∧ l.length * B ≤ 140737488351232 ∧ l.length ≤ maxLen) := by
 constructor
 intro H enc w base spare held fuel cs x h hw
 rcases DataW.trod_slice ht h with ⟨rfl, rfl⟩ | ⟨ad, len, cap, elems, rest, n, rfl, rfl, rfl, hb, hl, hm, hlen, hel, hsp, hns⟩
 ·exact ⟨[], ⟨none, 0, rfl, Nat.le_refl _, ⟨rfl, by simp, fun hn => absurd hn (by simp)⟩⟩, by simp, by simp, by simp⟩
 ·have hw0 : ∀ m ∈ (elems.map (·.1)).length * 0 :: DataW.weightsAll P e (elems.map (·.1)), m ≤ reachBytes := by
   intro m hm'
   rcases List.mem_cons.1 hm' with rfl | hm'
   ·simp
   ·apply hw
    simp only [DataW.weights, ht]
    exact List.mem_cons_of_mem _ (List.mem_append_left _ hm')
  have hall : ∀ i, i < len → ∃ a cs', cs'.length = d.sz ∧ d.K w a cs' ∧ g a ∧ ∀ j u, cs'[j]? = some u → w.cell? (ad.add (i * d.sz + j)) = some u := by
   intro i hi
   have h1 := hel i hi
   have hi' : i < elems.length := by omega
   rw [List.getElem?_eq_getElem hi'] at h1
   obtain ⟨cs', hc, ht'⟩ := Option.bind_eq_some_iff.1 h1
   obtain ⟨hcl, hcg⟩ := cells_get hc
   obtain ⟨a, ha, hga⟩ := hd.out ht' (fun m hm' => hw0 m (List.mem_cons_of_mem _ (weights_mem_all (j := i) (d := elems[i].1) (by rw [List.getElem?_map, List.getElem?_eq_getElem hi']; rfl) m hm')))
   refine ⟨a, cs', by rw [hcl, hs], ha, hga, fun j u hj => ?_⟩
   have hjl : j < cs'.length := (List.getElem?_eq_some_iff.1 hj).1
   rw [← addr_add_add, ← hs, hcg j (by omega)]
   exact hj
  have key : ∀ m, m ≤ len → ∃ l : List α, l.length = m ∧ (∀ a ∈ l, g a) ∧ ∀ j p, l[j]? = some p → ∃ c, c.length = d.sz ∧ d.K w p c ∧ ∀ i u, c[i]? = some u → w.cell? (ad.add (j * d.sz + i)) = some u := by
   intro m
   induction m with
   | zero => intro _; exact ⟨[], rfl, by simp, by simp⟩
   | succ m ih =>
    intro hm'
    obtain ⟨l, hl1, hl2, hl3⟩ := ih (by omega)
    obtain ⟨a, cs', h1, h2, h3, h4⟩ := hall m (by omega)
    refine ⟨l ++ [a], by simp [hl1], ?_, ?_⟩
    ·intro b hb'
     rcases List.mem_append.1 hb' with hb' | hb'
     ·exact hl2 b hb'
     ·rw [List.mem_singleton.1 hb']; exact h3
    ·intro j p hj
     rcases Nat.lt_or_ge j l.length with hjl | hjl
     ·rw [List.getElem?_append_left hjl] at hj
      exact hl3 j p hj
     ·have hj2 : j = l.length := by
       have := (List.getElem?_eq_some_iff.1 hj).1
       simp at this
       omega
      subst hj2
      rw [List.getElem?_append_right (Nat.le_refl _)] at hj
      simp at hj
      subst hj
      exact ⟨cs', h1, h2, by rw [hl1]; exact h4⟩
  obtain ⟨l, hl1, hl2, hl3⟩ := key len (Nat.le_refl _)
  have hlm : l.length ≤ maxLen := by omega
  refine ⟨l, ⟨some ad, cap, by rw [hl1], by omega, ⟨rfl, by unfold maxLen at hlm; omega, fun _ => ⟨ad, rfl, hl3⟩⟩⟩, hl2, ?_, hlm⟩
  have h2 := hw ((elems.map (·.1)).length * B + (rest.map (·.1)).length * B) (by
   simp only [DataW.weights, ht]
   rw [← hB, ← Nat.add_mul]
   exact List.mem_cons_self)
  have h3 : l.length = elems.length := by omega
  have h4 : (elems.map (·.1)).length = elems.length := List.length_map _
  rw [h4, ← h3] at h2
  unfold reachBytes at h2
  omega
structure FOpens (P : Program) (off : Nat) (fs : List Field) {α : Type} (d : Kd α) (g : α → Prop) : Prop where
 out : ∀ {H : Type} {enc : TypeId × Value → H} {w : World} {base : Nat} {spare : Nat → Bool} {held : Bool} {n : Nat} {cs : List Value} {xs : List (DataW H × List MemPlace)},
  xs.length = fs.length → cs.length = off + d.sz →
  (∀ (i : Nat) (f : Field), fs[i]? = some f → DataW.trod enc P w base spare held n f.type ((cs.drop f.offset).take (P.cellsOf f.type)) = xs[i]?) →
  (∀ m ∈ DataW.weightsEach P (fs.map (·.type)) (xs.map (·.1)), m ≤ reachBytes) → ∃ a, d.K w a (cs.drop off) ∧ g a
theorem FOpens.one {P : Program} {off : Nat} {f : Field} {α : Type} {d : Kd α} {g : α → Prop} (h : Opens P f.type d g) (ho : f.offset = off) (hs : P.cellsOf f.type = d.sz) : FOpens P off [f] d g := by
 constructor
 intro H enc w base spare held n cs xs hl hc ht hw
 match xs, hl with
 | [x], _ =>
  have h1 := ht 0 f rfl
  have h2 : (cs.drop f.offset).take (P.cellsOf f.type) = cs.drop off := by
   rw [ho, hs]
   exact List.take_of_length_le (by rw [List.length_drop]; omega)
  rw [h2] at h1
  exact h.out h1 (fun m hm => hw m (by simp only [List.map_cons, List.map_nil, DataW.weightsEach, List.mem_append]; exact Or.inl hm))
theorem FOpens.cons {P : Program} {off : Nat} {f : Field} {fs : List Field} {α β : Type} {d : Kd α} {d' : Kd β} {g : α → Prop} {g' : β → Prop} (h : Opens P f.type d g) (ho : f.offset = off) (hs : P.cellsOf f.type = d.sz)
  (h' : FOpens P (off + d.sz) fs d' g') : FOpens P off (f :: fs) (Kd.pair d d') (fun a => g a.1 ∧ g' a.2) := by
 constructor
 intro H enc w base spare held n cs xs hl hc ht hw
 match xs, hl with
 | x :: xs, hl =>
  have hc' : cs.length = off + d.sz + d'.sz := by rw [hc, Nat.add_assoc]; rfl
  have h1 := ht 0 f rfl
  rw [ho, hs] at h1
  obtain ⟨a, ha, hga⟩ := h.out h1 (fun m hm => hw m (by simp only [List.map_cons, DataW.weightsEach, List.mem_append]; exact Or.inl hm))
  obtain ⟨b, hb, hgb⟩ := h'.out (n := n) (xs := xs) (by simpa using hl) hc' (fun i f' hf => ht (i + 1) f' (by simpa using hf)) (fun m hm => hw m (by simp only [List.map_cons, DataW.weightsEach, List.mem_append]; exact Or.inr hm))
  refine ⟨(a, b), ⟨_, _, ?_, ha, hb⟩, hga, hgb⟩
  rw [← List.drop_drop, List.take_append_drop]
theorem Opens.struct {P : Program} {t : TypeId} {fs : Array Field} {α β : Type} {d : Kd α} {g : α → Prop} (ht : P.underlying t = some (.struct fs)) (h : FOpens P 0 fs.toList d g) (hs : P.cellsOf t = d.sz) (f : β → α) (mk : α → β) (hf : ∀ a, f (mk a) = a) :
  Opens P t (Kd.iso d f) (fun b => g (f b)) := by
 constructor
 intro H enc w base spare held fuel cs x hx hw
 obtain ⟨xs, n, rfl, rfl, hl, hn, hel⟩ := DataW.trod_struct ht hx
 obtain ⟨a, ha, hga⟩ := h.out (n := n) (xs := xs) (by simpa using hn) (by rw [hl, hs, Nat.zero_add]) (fun i f' hf' => hel i f' (by simpa using hf')) (by
  intro m hm
  apply hw
  simp only [DataW.weights, ht]
  exact hm)
 exact ⟨mk a, by show d.K w (f (mk a)) cs; rw [hf]; simpa using ha, by show g (f (mk a)); rw [hf]; exact hga⟩
theorem Opens.arg {P : Program} {t : TypeId} {α : Type} {d : Kd α} {g : α → Prop} (h : Opens P t d g) {H : Type} {enc : TypeId × Value → H} {w : World} {base : Nat} {spare : Nat → Bool} {held : Bool} {v : Value} {x : DataW H} {ps : List MemPlace} {ts : List TypeId} {ds : List (DataW H)} {j : Nat}
  (hsz : (DataW.weightsEach P ts ds).all (· ≤ reachBytes) = true) (ht : ts[j]? = some t) (hd : ds[j]? = some x)
  (hv : DataW.Trod enc P w base spare held t v x ps) : ∃ a, d.K w a v.cells.toList ∧ g a := by
 obtain ⟨fuel, hf⟩ := hv
 exact h.out hf (fun n hn => by simpa using List.all_eq_true.1 hsz n (DataW.weights_mem_each ht hd n hn))
theorem slice_form {α : Type} {e : Nat} {d : Kd α} {w : World} {l : List α} {A : Option Addr} {len cap : Nat} (h : (Kd.slice e d).K w l (Value.slice A len cap).cells.toList) : len = l.length ∧ l.length ≤ cap ∧ d.C w A l.length l := by
 obtain ⟨A', c, he, hl, hc⟩ := h
 simp [Value.cells] at he
 obtain ⟨rfl, rfl, rfl⟩ := he
 exact ⟨rfl, hl, hc⟩
theorem agg_form {cs : Array Value} {l : List Value} (h : (Value.agg cs).cells.toList = l) : cs = l.toArray := by
 subst h
 simp [Value.cells]
theorem okWide_agg {P : Program} {w : World} {r : Reach} {base : Nat} {t : TypeId} {v : Value} {fs : Array Field} (ht : P.underlying t = some (.struct fs)) (h : Value.okWide P w r base t v) : ∃ cs, v = .agg cs := by
 simp only [Value.okWide, ht] at h
 obtain ⟨cs, rfl, _⟩ := h
 exact ⟨cs, rfl⟩
def I64 (n : Int) : Prop := -9223372036854775808 ≤ n ∧ n ≤ 9223372036854775807
def U8 (n : Int) : Prop := 0 ≤ n ∧ n ≤ 255
def Len (B : Nat) {α : Type} (l : List α) : Prop := l.length * B ≤ 140737488351232
theorem I64.of {n : Int} (h : (Lit.int .i64 n).wf = true) : I64 n := by
 simp [Lit.wf, IntKind.min, IntKind.max, IntKind.signed, IntKind.bits] at h
 unfold I64
 omega
theorem U8.of {n : Int} (h : (Lit.int .u8 n).wf = true) : U8 n := by
 simp [Lit.wf, IntKind.min, IntKind.max, IntKind.signed, IntKind.bits] at h
 unfold U8
 omega
theorem Opens.i64 {P : Program} {t : TypeId} (ht : P.underlying t = some (.int .i64)) : Opens P t (Kd.int .i64) (fun n => I64 n) := (Opens.int ht).imp (fun _ h => I64.of h)
theorem Opens.u8 {P : Program} {t : TypeId} (ht : P.underlying t = some (.int .u8)) : Opens P t (Kd.int .u8) (fun n => U8 n) := (Opens.int ht).imp (fun _ h => U8.of h)
theorem Opens.slice' {P : Program} {t e : TypeId} {α : Type} {d : Kd α} {g : α → Prop} {B : Nat} (ht : P.underlying t = some (.slice e)) (hd : Opens P e d g) (hs : P.cellsOf e = d.sz) (hB : P.bytesOf e = B) :
  Opens P t (Kd.slice e d) (fun l => Len B l ∧ ∀ y ∈ l, g y) := (Opens.slice ht hd hs hB).imp (fun _ h => ⟨h.2.1, h.1⟩)
theorem Opens.struct0 {P : Program} {t : TypeId} {fs : Array Field} {α : Type} {d : Kd α} {g : α → Prop} (ht : P.underlying t = some (.struct fs)) (h : FOpens P 0 fs.toList d g) (hs : P.cellsOf t = d.sz) : Opens P t d g :=
 Opens.struct ht h hs (fun x => x) (fun x => x) (fun _ => rfl)
theorem slice_of {α : Type} {d : Kd α} {e : Nat} {w : World} {base : Nat} {ok : Nat → Prop} {v : Value} {xs : List α} (h : Aside0 (Kd.R d e w base ok v xs)) : ∃ A c, v = .slice A xs.length c := Kd.R_slice h.out
theorem isSome_set (W : World) (a : Addr) (v : Value) : ((W.setCell a v).cell? a).isSome = (W.cell? a).isSome := by
 simp only [World.setCell, World.cell?, Array.getElem?_modify, if_true]
 cases W.heap[a.block]? with
 | none => rfl
 | some o =>
  cases o with
  | cells c e f =>
   cases hs : a.spot with
   | some s => simp
   | none => by_cases h : a.off < c.size <;> simp [h]
  | _ => rfl
end Go.Proofs.YthnlkgbhohchoaaGreat.Open
