/- words of the walk, of which only what this law uses is kept -/
/- What a parameter of a law reads as: out of its reading as data, the printed words' own relations (Kd.K, Kd.C), kind by kind. -/
import Derived.Test.YtoelfknhnmhlmaaSSnapRunsWWords
import Derived.Test.YtoelfknhnmhlmaaSSnapRunsXWFloat
import Derived.SizedLaws
import Derived.ChangeSlices
import Derived.ChangeArms
import Derived.OpenShut
import Derived.Laws.Cover2
namespace Go.Proofs.YtoelfknhnmhlmaaX
open Go.RowKit Go.ChangeShapes Go.WideShapes Go.Proofs.YtoelfknhnmhlmaaW.PrintWords
set_option linter.unusedVariables false

def Opens {α : Type} (P : Program) (d : Kd α) (t : TypeId) (good : α → Prop) : Prop :=
  ∀ {H : Type} (enc : TypeId × Value → H) (W : World) (spare : Nat → Bool) (held : Bool) (fuel : Nat) (cs : List Value) (x : DataW H) (ps : List MemPlace),
    DataW.trod enc P W 0 spare held fuel t cs = some (x, ps) → (∀ n ∈ x.weights P t, n ≤ reachBytes) → ∃ a, d.K W a cs ∧ good a

theorem opens_int {P : Program} {t : TypeId} {k : IntKind} (ht : P.underlying t = some (.int k)) : Opens P (Kd.int k) t (fun x => (Lit.int k x).wf = true) := by
  intro H enc W spare held fuel cs x ps h _
  cases fuel with
  | zero => simp [DataW.trod] at h
  | succ n =>
    unfold DataW.trod at h
    rw [ht] at h
    split at h <;> simp_all
    exact ⟨_, rfl, by simp_all⟩

theorem opens_bool {P : Program} {t : TypeId} (ht : P.underlying t = some .bool) : Opens P Kd.bool t (fun _ => True) := by
  intro H enc W spare held fuel cs x ps h _
  cases fuel with
  | zero => simp [DataW.trod] at h
  | succ n =>
    unfold DataW.trod at h
    rw [ht] at h
    split at h <;> simp_all
    cases ‹Bool› with
    | false => exact .inl rfl
    | true => exact .inr rfl

theorem opens_float {P : Program} {t : TypeId} (ht : P.underlying t = some (.float .f64)) : Opens P Kd.float t (fun x => x < 18446744073709551616) := by
  intro H enc W spare held fuel cs x ps h _
  cases fuel with
  | zero => simp [DataW.trod] at h
  | succ n =>
    unfold DataW.trod at h
    rw [ht] at h
    split at h
    all_goals first | (exfalso; simp_all; done) | skip
    rename_i k k' b heq
    injection heq with heq
    obtain ⟨⟨rfl, hw⟩, _⟩ : (_ ∧ _) ∧ _ := by simpa using h
    injection heq with heq
    subst heq
    exact ⟨b, rfl, by simpa [Lit.wf] using hw⟩

theorem add_of_add (a : Addr) (i j : Nat) : (a.add i).add j = a.add (i + j) := by
  unfold Addr.add
  by_cases hi : i = 0 <;> by_cases hj : j = 0 <;> simp [hi, hj, Nat.add_assoc]

theorem mem_weightsAll {H : Type} {P : Program} {e : TypeId} : ∀ {l : List (DataW H)} {d : DataW H}, d ∈ l → ∀ n ∈ d.weights P e, n ∈ DataW.weightsAll P e l
  | d0 :: r, d, hd, n, hn => by
    rcases List.mem_cons.1 hd with rfl | hd
    · simp only [DataW.weightsAll, List.mem_append]; exact .inl hn
    · simp only [DataW.weightsAll, List.mem_append]; exact .inr (mem_weightsAll hd n hn)

theorem opens_slice {α : Type} {P : Program} {d : Kd α} {e t : TypeId} {good : α → Prop} (o : Opens P d e good) (ht : P.underlying t = some (.slice e)) (hsz : P.cellsOf e = d.sz) :
    Opens P (Kd.slice e d) t (fun xs => xs.length ≤ maxLen ∧ xs.length * P.bytesOf e ≤ reachBytes ∧ ∀ x ∈ xs, good x) := by
  intro H enc W spare held fuel cs x ps h hw
  rcases DataW.trod_slice ht h with ⟨rfl, hx⟩ | ⟨a, len, cap, elems, rest, n, _, rfl, hx, hb, hl, hm, hlen, hel, _, _⟩
  · exact ⟨[], ⟨none, 0, rfl, Nat.le_refl _, rfl, by simp, fun h0 => absurd h0 (by simp)⟩, by simp, by simp, by simp⟩
  · obtain ⟨rfl, _⟩ := Prod.mk.inj hx
    have hw1 : (elems.length + rest.length) * P.bytesOf e ≤ reachBytes := hw _ (by simp [DataW.weights, ht])
    have hw2 : ∀ y ∈ elems, ∀ m ∈ y.1.weights P e, m ≤ reachBytes := by
      intro y hy m hmem
      refine hw m ?_
      simp only [DataW.weights, ht, List.mem_cons, List.mem_append]
      exact .inr (.inl (mem_weightsAll (List.mem_map_of_mem hy) m hmem))
    have step : ∀ m, m ≤ len → ∃ xs : List α, xs.length = m ∧ ∀ j p, xs[j]? = some p → (∃ c, c.length = d.sz ∧ d.K W p c ∧ ∀ i u, c[i]? = some u → W.cell? (a.add (j * d.sz + i)) = some u) ∧ good p := by
      intro m
      induction m with
      | zero => exact fun _ => ⟨[], rfl, fun j p hj => by simp at hj⟩
      | succ m ih =>
        intro hle
        obtain ⟨xs, hxl, hxs⟩ := ih (by omega)
        have he := hel m (by omega)
        have hget : elems[m]? = some (elems[m]'(by omega)) := List.getElem?_eq_getElem (by omega)
        rw [hget, Option.bind_eq_some_iff] at he
        obtain ⟨c, hc, htr⟩ := he
        obtain ⟨_, hcl, hcell⟩ := World.cells?_some hc
        obtain ⟨p, hK, hg⟩ := o enc W spare held n c _ _ (htr.trans (by rfl)) (hw2 _ (List.getElem_mem _))
        refine ⟨xs ++ [p], by simp [hxl], ?_⟩
        intro j q hj
        by_cases hjm : j < m
        · rw [List.getElem?_append_left (by omega)] at hj
          exact hxs j q hj
        · have hj2 : j = m := by
            have := (List.getElem?_eq_some_iff.1 hj).1
            simp [hxl] at this
            omega
          subst hj2
          rw [List.getElem?_append_right (by omega), hxl, Nat.sub_self] at hj
          obtain rfl : p = q := by simpa using hj
          refine ⟨⟨c, by rw [← hsz]; exact hcl, hK, fun i u hu => ?_⟩, hg⟩
          have hi : i < P.cellsOf e := by rw [← hcl]; exact (List.getElem?_eq_some_iff.1 hu).1
          have := hcell i hi
          rw [add_of_add, hu, hsz] at this
          exact this
    obtain ⟨xs, hxl, hxs⟩ := step len (Nat.le_refl _)
    refine ⟨xs, ⟨some a, cap, by rw [hxl], by omega, rfl, ?_, fun _ => ⟨a, rfl, fun j p hj => (hxs j p hj).1⟩⟩, by omega, ?_, ?_⟩
    · rw [hxl]; have : maxLen ≤ 9223372036854775807 := by decide
      omega
    · rw [hxl]; exact Nat.le_trans (Nat.mul_le_mul_right _ (by omega)) hw1
    · intro p hp
      obtain ⟨j, hj⟩ := List.getElem?_of_mem hp
      exact (hxs j p hj).2

/-- Fields in line, from a place on. -/
def OpensAt {α : Type} (P : Program) (d : Kd α) (fs : List Field) (off : Nat) (good : α → Prop) : Prop :=
  ∀ {H : Type} (enc : TypeId × Value → H) (W : World) (spare : Nat → Bool) (held : Bool) (n : Nat) (cs : List Value) (xs : List (DataW H × List MemPlace)),
    xs.length = fs.length → (∀ (i : Nat) (f : Field), fs[i]? = some f → DataW.trod enc P W 0 spare held n f.type ((cs.drop f.offset).take (P.cellsOf f.type)) = xs[i]?) →
    (∀ m ∈ DataW.weightsEach P (fs.map (·.type)) (xs.map (·.1)), m ≤ reachBytes) → cs.length = off + d.sz → ∃ a, d.K W a (cs.drop off) ∧ good a

theorem opensAt_one {α : Type} {P : Program} {d : Kd α} {f : Field} {good : α → Prop} (o : Opens P d f.type good) (hsz : P.cellsOf f.type = d.sz) : OpensAt P d [f] f.offset good := by
  intro H enc W spare held n cs xs hl hx hw hc
  match xs, hl with
  | [x], _ =>
    have h0 := hx 0 f rfl
    rw [List.take_of_length_le (by simp; omega)] at h0
    exact o enc W spare held n _ x.1 x.2 (h0.trans rfl) (fun m hm => hw m (by simpa [DataW.weightsEach] using hm))

theorem opensAt_cons {α β : Type} {P : Program} {a : Kd α} {b : Kd β} {f : Field} {fs : List Field} {off : Nat} {g : α → Prop} {h : β → Prop} (o : Opens P a f.type g) (hoff : f.offset = off) (hsz : P.cellsOf f.type = a.sz) (r : OpensAt P b fs (off + a.sz) h) :
    OpensAt P (Kd.pair a b) (f :: fs) off (fun x => g x.1 ∧ h x.2) := by
  intro H enc W spare held n cs xs hl hx hw hc
  match xs, hl with
  | x :: xs, hl =>
    have h0 := hx 0 f rfl
    rw [hoff, hsz] at h0
    have hc' : cs.length = off + (a.sz + b.sz) := hc
    obtain ⟨p, hp, gp⟩ := o enc W spare held n _ x.1 x.2 (h0.trans rfl) (fun m hm => hw m (by simp only [List.map_cons, DataW.weightsEach, List.mem_append]; exact .inl hm))
    obtain ⟨q, hq, gq⟩ := r enc W spare held n cs xs (by simpa using hl) (fun i f' hf => hx (i + 1) f' (by simpa using hf)) (fun m hm => hw m (by simp only [List.map_cons, DataW.weightsEach, List.mem_append]; exact .inr hm)) (by omega)
    refine ⟨(p, q), ⟨_, _, ?_, hp, hq⟩, gp, gq⟩
    rw [← List.drop_drop, List.take_append_drop]

theorem opens_struct {α β : Type} {P : Program} {d : Kd α} {t : TypeId} {fs : Array Field} {good : α → Prop} (f : β → α) (mk : α → β) (hmk : ∀ x, f (mk x) = x) (r : OpensAt P d fs.toList 0 good) (ht : P.underlying t = some (.struct fs)) (hsz : P.cellsOf t = d.sz) :
    Opens P (Kd.iso d f) t (fun x => good (f x)) := by
  intro H enc W spare held fuel cs x ps h hw
  obtain ⟨xs, n, _, hx, hl, hxl, hf⟩ := DataW.trod_struct ht h
  obtain ⟨rfl, _⟩ := Prod.mk.inj hx
  obtain ⟨a, hK, hg⟩ := r enc W spare held n cs xs (by simpa using hxl) (fun i f hi => hf i f (by simpa using hi)) (fun m hm => hw m (by simpa [DataW.weights, ht] using hm)) (by omega)
  refine ⟨mk a, ?_, by show good (f (mk a)); rw [hmk]; exact hg⟩
  show d.K W (f (mk a)) cs
  rw [hmk]; exact hK

theorem weights_array {H : Type} {P : Program} {e : TypeId} : ∀ (fs : List Field) (ds : List (DataW H)), (∀ f ∈ fs, f.type = e) → ∀ m ∈ DataW.weightsEach P (fs.map (·.type)) ds, m ∈ DataW.weightsAll P e ds
  | [], _, _, m, h => by simp [DataW.weightsEach] at h
  | f :: fs, [], _, m, h => by simp [DataW.weightsEach] at h
  | f :: fs, d :: ds, hf, m, h => by
    simp only [List.map_cons, DataW.weightsEach, List.mem_append] at h
    simp only [DataW.weightsAll, List.mem_append]
    rcases h with h | h
    · rw [hf f (List.mem_cons_self ..)] at h; exact .inl h
    · exact .inr (weights_array fs ds (fun f' h' => hf f' (List.mem_cons_of_mem _ h')) m h)

/-- An array by value, told as a struct of its elements. -/
theorem opens_array {α β : Type} {P : Program} {d : Kd α} {t e : TypeId} {n : Nat} {fs : List Field} {good : α → Prop} (f : β → α) (mk : α → β) (hmk : ∀ x, f (mk x) = x) (r : OpensAt P d fs 0 good) (ht : P.underlying t = some (.array n e)) (hl : fs.length = n)
    (hof : (fs.zipIdx.all fun p => p.1.type == e && p.1.offset == p.2 * P.cellsOf e) = true) (hsz : P.cellsOf t = d.sz) : Opens P (Kd.iso d f) t (fun x => good (f x)) := by
  intro H enc W spare held fuel cs x ps h hw
  obtain ⟨xs, m, _, hx, hc, hxl, hf⟩ := DataW.trod_array ht h
  obtain ⟨rfl, _⟩ := Prod.mk.inj hx
  have hat : ∀ (i : Nat) (g : Field), fs[i]? = some g → g.type = e ∧ g.offset = i * P.cellsOf e := by
    intro i g hg
    have := List.all_eq_true.1 hof (g, i) (List.mem_zipIdx_iff_getElem?.2 hg)
    simpa using this
  have hty : ∀ g ∈ fs, g.type = e := by
    intro g hg
    obtain ⟨i, hi⟩ := List.mem_iff_getElem?.1 hg
    exact (hat i g hi).1
  obtain ⟨a, hK, hg⟩ := r enc W spare held m cs xs (by omega) (fun i g hi => by
    obtain ⟨h1, h2⟩ := hat i g hi
    rw [h1, h2]
    exact hf i (by have := (List.getElem?_eq_some_iff.1 hi).1; omega)) (fun q hq => hw q (by simp only [DataW.weights, ht]; exact weights_array fs _ hty q hq)) (by omega)
  refine ⟨mk a, ?_, by show good (f (mk a)); rw [hmk]; exact hg⟩
  show d.K W (f (mk a)) cs
  rw [hmk]; exact hK
theorem px_okWide_array {P : Program} {w : World} {r : Reach} {base : Nat} {t e : TypeId} {n : Nat} {v : Value} (ht : P.underlying t = some (.array n e)) (h : Value.okWide P w r base t v) : ∃ cs, v = .agg cs ∧ cs.size = P.cellsOf t := by
  simp only [Value.okWide, ht] at h
  obtain ⟨cs, h1, h2, _⟩ := h
  exact ⟨cs, h1, h2⟩

/-- The whole parameter: its value's cells. -/
theorem opens_param {α : Type} {P : Program} {d : Kd α} {t : TypeId} {good : α → Prop} (o : Opens P d t good) {H : Type} {enc : TypeId × Value → H} {W : World} {spare : Nat → Bool} {held : Bool} {v : Value} {x : DataW H} {ps : List MemPlace}
    (h : DataW.Trod enc P W 0 spare held t v x ps) {ts : List TypeId} {ds : List (DataW H)} (hsz : (DataW.weightsEach P ts ds).all (· ≤ reachBytes) = true) {j : Nat} (ht : ts[j]? = some t) (hd : ds[j]? = some x) : ∃ a, d.K W a v.cells.toList ∧ good a := by
  obtain ⟨fuel, hf⟩ := h
  exact o enc W spare held fuel _ _ _ hf (fun n hn => by simpa using List.all_eq_true.1 hsz _ (DataW.weights_mem_each ht hd n hn))

theorem agg_of {cs : Array Value} {l : List Value} (h : cs.toList = l) : cs = l.toArray := by rw [← h]

theorem wf_i64 {x : Int} (h : (Lit.int .i64 x).wf = true) : -9223372036854775808 ≤ x ∧ x ≤ 9223372036854775807 := by
  simp [Lit.wf, IntKind.min, IntKind.max, IntKind.signed, IntKind.bits] at h
  omega
theorem wf_u64 {x : Int} (h : (Lit.int .u64 x).wf = true) : 0 ≤ x ∧ x ≤ 18446744073709551615 := by
  simp [Lit.wf, IntKind.min, IntKind.max, IntKind.signed, IntKind.bits] at h
  omega
theorem px_okWide_int {P : Program} {w : World} {r : Reach} {b0 : Nat} {t : TypeId} {k : IntKind} {v : Value} (ht : P.underlying t = some (.int k)) (h : Value.okWide P w r b0 t v) : ∃ n, v = .int k n := by
  simp only [Value.okWide, ht, Cell.okWide] at h
  cases v <;> simp_all [Cell.ok]
theorem px_okWide_bool {P : Program} {w : World} {r : Reach} {b0 : Nat} {t : TypeId} {v : Value} (ht : P.underlying t = some .bool) (h : Value.okWide P w r b0 t v) : ∃ b, v = .bool b := by
  simp only [Value.okWide, ht, Cell.okWide] at h
  cases v <;> simp_all [Cell.ok]
theorem px_okWide_float {P : Program} {w : World} {r : Reach} {b0 : Nat} {t : TypeId} {k : FloatKind} {v : Value} (ht : P.underlying t = some (.float k)) (h : Value.okWide P w r b0 t v) : ∃ b, v = .float k b := okWide_float ht h
end Go.Proofs.YtoelfknhnmhlmaaX
