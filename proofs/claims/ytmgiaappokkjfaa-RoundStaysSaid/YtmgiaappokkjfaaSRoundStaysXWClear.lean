/- words of the walk, of which only what this law uses is kept -/
import Derived.Laws.IdiomCopy
import Derived.Test.YtmgiaappokkjfaaSRoundStaysWLast
import Derived.Test.YtmgiaappokkjfaaSRoundStaysWMore
namespace Go.Proofs.YtmgiaappokkjfaaX
open Go.RowKit Go.Proofs.YtmgiaappokkjfaaW.PrintWords Go.Proofs.YtmgiaappokkjfaaW.PrintLast Go.Proofs.YtmgiaappokkjfaaW.PrintMore
set_option linter.unusedVariables false
theorem setCells_app (b : Nat) : ∀ (xs ys : List Value) (o : Nat) (w : World), w.setCells b o (xs ++ ys) = (w.setCells b o xs).setCells b (o + xs.length) ys
  | [], ys, o, w => by simp [World.setCells]
  | x :: xs, ys, o, w => by
    simp only [List.cons_append, World.setCells, List.length_cons]
    rw [setCells_app b xs ys (o + 1) (w.setCell ⟨b, o, none⟩ x), Nat.add_assoc, Nat.add_comm 1]
theorem grown_trans {w w1 w2 : World} {row : Option Nat} (h : w.grownBy w1 row) (k : w1.grownBy w2 row) : w.grownBy w2 row := by
  obtain ⟨a1, a2, a3, a4, a5⟩ := h
  obtain ⟨b1, b2, b3, b4, b5⟩ := k
  exact ⟨b1.trans a1, b2.trans a2, b3.trans a3, Nat.le_trans a4 b4, fun i hi hr => (b5 i (Nat.lt_of_lt_of_le hi a4) hr).trans (a5 i hi hr)⟩
theorem R_clear {α : Type} {d : Kd α} {e base g n cap : Nat} {ok okp : Nat → Prop} {z : α} {zs : List Value} (hz : zs.length = d.sz) (hM : ∀ W, d.M W base okp z zs) (hokp : ∀ k, okp k → ok k ∧ k ≠ g) (dz : α) :
    ∀ (m i : Nat) (W : World) (xs : List α), Kd.R d e W base ok (.slice (some ⟨g, 0, none⟩) n cap) xs → i + m = xs.length →
      Kd.R d e (W.setCells g (i * d.sz) (List.replicate m zs).flatten) base ok (.slice (some ⟨g, 0, none⟩) n cap) (xs.take i ++ List.replicate m z) ∧ W.grownBy (W.setCells g (i * d.sz) (List.replicate m zs).flatten) (some g)
  | 0, i, W, xs, h, hl => by
    simp only [List.replicate_zero, List.flatten_nil, World.setCells, List.append_nil]
    rw [List.take_of_length_le (by omega)]
    exact ⟨h, World.grownBy.refl _ _⟩
  | m + 1, i, W, xs, h, hl => by
    obtain ⟨hn, _, _⟩ := Kd.R_reads' h
    obtain ⟨c, hcl, hcM, hcc, hfr⟩ := Kd.R_elem h dz (i : Int) (by omega) (by omega)
    have h1 := (Kd.R_seg h (i : Int) (by omega) (by omega) (seg := zs) (j := 0) hcl hcc (by omega) (x' := z) (okp := okp) (by simpa [List.drop_of_length_le, hcl, hz] using hM W) hokp)
    rw [Int.toNat_natCast, Nat.add_zero] at h1
    have h2 := R_clear hz hM hokp dz m (i + 1) _ _ h1.1 (by rw [List.length_set]; omega)
    rw [List.replicate_succ, List.flatten_cons, setCells_app, hz, show i * d.sz + d.sz = (i + 1) * d.sz by rw [Nat.succ_mul]]
    have e1 : (xs.set i z).take (i + 1) ++ List.replicate m z = xs.take i ++ List.replicate (m + 1) z := by
      rw [List.replicate_succ, List.take_add_one]
      have hi : i < xs.length := by omega
      simp [List.take_set_of_le, hi]
    rw [e1] at h2
    exact ⟨h2.1, grown_trans h1.2 h2.2⟩
theorem zeroCells_flat {zs : List Value} {n : Nat} : (Builtin.zeroCells zs.toArray n).toList = (List.replicate n zs).flatten := by
  apply List.ext_getElem?
  intro i
  by_cases hz : zs.length = 0
  · have : zs = [] := List.length_eq_zero_iff.1 hz
    subst this
    simp [Builtin.zeroCells]
  · have hp : 0 < zs.length := by omega
    induction n generalizing i with
    | zero => simp [Builtin.zeroCells]
    | succ n ih =>
      rw [List.replicate_succ, List.flatten_cons]
      by_cases hi : i < zs.length
      · rw [List.getElem?_append_left hi]
        have h2 : i < (n + 1) * zs.length := by rw [Nat.succ_mul]; omega
        simp [Builtin.zeroCells, h2, Nat.mod_eq_of_lt hi, hi]
      · rw [List.getElem?_append_right (by omega), ← ih (i - zs.length)]
        have e : i % zs.length = (i - zs.length) % zs.length := by
          conv => lhs; rw [show i = (i - zs.length) + zs.length by omega]
          rw [Nat.add_mod_right]
        by_cases h2 : i < (n + 1) * zs.length
        · have h3 : i - zs.length < n * zs.length := by rw [Nat.succ_mul] at h2; omega
          simp [Builtin.zeroCells, h2, h3, e]
        · have h3 : ¬ i - zs.length < n * zs.length := by rw [Nat.succ_mul] at h2; omega
          simp [Builtin.zeroCells, h2, h3]
theorem R_clear_run {P : Program} {α : Type} {d : Kd α} {W : World} {e base g n c k : Nat} {ok okp : Nat → Prop} {z : α} {zs : List Value} {zv : Value} {t ty : TypeId} (ht : P.underlying t = some (.slice e)) (hv : ∀ w, (zeroValue e).run P w = .ok zv w) (hzc : zv.cells = zs.toArray)
    (h1 : ∀ v ∈ zs, v.oneCell' = true) (hz : zs.length = d.sz) (hM : ∀ W, d.M W base okp z zs) (hokp : ∀ k, okp k → ok k ∧ k ≠ g) (dz : α) {xs : List α} (HO : Kd.R d e W base ok (.slice (some ⟨g, 0, none⟩) n c) xs) (hk : k ≤ n) {A : Option Addr}
    (hA : A = if c = k then some ⟨g, 0, none⟩ else (some (⟨g, 0, none⟩ : Addr)).map (·.add (k * d.sz))) (c2 : Nat) :
    ∃ w1, (Builtin.clear_ #[t] ty #[.slice A (n - k) c2]).run P W = .ok (.tuple #[]) w1 ∧ Kd.R d e w1 base ok (.slice (some ⟨g, 0, none⟩) n c) (xs.take k ++ List.replicate (n - k) z) ∧ W.grownBy w1 (some g) := by
  obtain ⟨hn, hnc, _⟩ := Kd.R_reads' HO
  obtain ⟨hR, hG⟩ := R_clear hz hM hokp dz (n - k) k W xs HO (by omega)
  refine ⟨_, ?_, hR, hG⟩
  by_cases h0 : n - k = 0
  · rw [h0]
    simp only [List.replicate_zero, List.flatten_nil, World.setCells]
    subst hA
    split <;> simp [Builtin.clear_, run_underlying ht]
  · obtain ⟨m, hm⟩ : ∃ m, n - k = m + 1 := ⟨n - k - 1, by omega⟩
    have hA2 : A = some ⟨g, k * d.sz, none⟩ := by
      rw [hA, if_neg (by omega)]
      simp [Addr.add]
      intro h; exact h.symm
    have hel : ∀ j, j < (List.replicate (n - k) zs).flatten.length → (W.cell? ⟨g, k * d.sz + 0 + j, none⟩).isSome = true ∧ W.frozen? ⟨g, k * d.sz + 0 + j, none⟩ = false := by
      intro j hj
      rw [List.length_flatten, List.map_replicate, List.sum_replicate_nat, hz] at hj
      have hsz : 0 < d.sz := by
        rcases Nat.eq_zero_or_pos d.sz with h | h
        · rw [h] at hj; simp at hj
        · exact h
      have hq : j / d.sz < n - k := Nat.div_lt_of_lt_mul (by rw [Nat.mul_comm]; exact hj)
      have e0 : (k + j / d.sz) * d.sz + j % d.sz = k * d.sz + 0 + j := by
        rw [Nat.add_mul, Nat.add_zero, Nat.add_assoc, Nat.mul_comm (j / d.sz), Nat.div_add_mod]
      obtain ⟨q, hqd⟩ : ∃ q, q = k + j / d.sz := ⟨_, rfl⟩
      have hq2 : q < n := by
        rw [hqd]
        generalize j / d.sz = q0 at hq
        omega
      rw [← hqd] at e0
      have e := e0
      obtain ⟨cc, hcl, _, hcc, hfr⟩ := Kd.R_elem HO dz (q : Int) (by omega) (by omega)
      have hlt : j % d.sz < cc.length := by rw [hcl]; exact Nat.mod_lt _ hsz
      have := hcc (j % d.sz) _ (List.getElem?_eq_getElem hlt)
      rw [Int.toNat_natCast, e] at this
      have hf := hfr (j % d.sz)
      rw [Int.toNat_natCast, e] at hf
      exact ⟨by rw [this]; rfl, hf⟩
    have hst := run_storeCells_cells (P := P) g (k * d.sz) (List.replicate (n - k) zs).flatten 0 W (fun j hj => (hel j hj).1) (fun j hj => (hel j hj).2) (by
      intro v hv
      obtain ⟨l, hl, hvl⟩ := List.mem_flatten.1 hv
      rw [List.eq_of_mem_replicate hl] at hvl
      exact h1 v hvl)
    rw [Nat.add_zero] at hst
    rw [hA2]
    have hzf : (Builtin.zeroCells zv.cells (n - k)).toList = (List.replicate (n - k) zs).flatten := by rw [hzc]; exact zeroCells_flat
    rw [hm] at hst hzf ⊢
    simp [Builtin.clear_, run_underlying ht, hv, hzf, hst]
theorem R_clear_any {P : Program} {α : Type} {d : Kd α} {W : World} {e base n c k : Nat} {ok : Nat → Prop} {z : α} {zs : List Value} {zv : Value} {t ty : TypeId} (ht : P.underlying t = some (.slice e)) (hv : ∀ w, (zeroValue e).run P w = .ok zv w) (hzc : zv.cells = zs.toArray)
    (h1 : ∀ v ∈ zs, v.oneCell' = true) (hz : zs.length = d.sz) (hM : ∀ W, d.M W base (fun _ => False) z zs) {A0 : Option Addr} {xs : List α} (HO : Kd.R d e W base ok (.slice A0 n c) xs) (hk : k ≤ n) {A : Option Addr}
    (hA : A = if c = k then A0 else A0.map (·.add (k * d.sz))) (c2 : Nat) :
    ∃ w1, (Builtin.clear_ #[t] ty #[.slice A (n - k) c2]).run P W = .ok (.tuple #[]) w1 ∧ Kd.R d e w1 base ok (.slice A0 n c) (xs.take k ++ List.replicate (n - k) z) ∧ W.grownBy w1 (Value.slice A0 n c).ownBlock := by
  obtain ⟨hn, hnc, _⟩ := Kd.R_reads' HO
  by_cases hp : 0 < xs.length
  · obtain ⟨g, cap, ev, _⟩ := Kd.R_form HO hp
    injection ev with e1 _ _
    subst e1
    exact R_clear_run ht hv hzc h1 hz hM (fun _ h => h.elim) z HO hk hA c2
  · obtain rfl : xs = [] := List.length_eq_zero_iff.1 (by omega)
    have hn0 : n = 0 := hn
    subst hn0
    obtain rfl : k = 0 := by omega
    refine ⟨W, ?_, by simpa using HO, World.grownBy.refl _ _⟩
    cases A <;> simp [Builtin.clear_, run_underlying ht]
section
variable {P : Program} {ops : Array Oper} {rest : List Oper} {o : Oper} {a : Act} {Q : Exit → Act → World → Prop}
/-- 'clear(xs[k:])', behind the cut. -/
theorem R_clear_ev {α : Type} (d : Kd α) {w0 W : World} (base : Nat) (hgd : o.guard = none) (x : Operand) (t e : TypeId) (ho : o.op = .call { callee := .builtin .clear, args := #[x], argTypes := #[t] }) (ht : P.underlying t = some (.slice e))
    (z : α) (zs : List Value) (zv : Value) (hv : ∀ w, (zeroValue e).run P w = .ok zv w) (hzc : zv.cells = zs.toArray) (h1 : ∀ v ∈ zs, v.oneCell' = true) (hz : zs.length = d.sz) (hM : ∀ W, d.M W base (fun _ => False) z zs)
    {n c k m c2 : Nat} {A A0 : Option Addr} {xs : List α} {ok : Nat → Prop} (hx : a.eval x = .slice A m c2) (hA : A = if c = k then A0 else A0.map (·.add (k * d.sz))) (hm : m = n - k)
    (HO : Kd.R d e W base ok (.slice A0 n c) xs) (hk : k ≤ n) (HB : Below base w0 W) (hbase : base ≤ W.heap.size)
    (h : ∀ w1, Kd.R d e w1 base ok (.slice A0 n c) (xs.take k ++ List.replicate (n - k) z) → Below base w0 w1 → W.grownBy w1 (Value.slice A0 n c).ownBlock → wpList P ops Q rest (a.put o.dst (.tuple #[])) w1) : wpList P ops Q (o :: rest) a W := by
  subst hm
  obtain ⟨w1, hr, h2, h3⟩ := R_clear_any (P := P) (ty := o.type) ht hv hzc h1 hz hM HO hk hA c2
  refine wpList_plain hgd fun K hK => ?_
  unfold Oper.wp execOp
  simp only [ho, resolve, invoke, builtin, Sem.run_bind, Sem.run_pure, Result.andThen_ok, List.map_toArray, List.map_cons, List.map_nil, hx, hr]
  exact hK _ _ (h w1 h2 (HB.grown h3 hbase (fun k hk => Kd.R_base HO _ hk)) h3)
end
end Go.Proofs.YtmgiaappokkjfaaX

