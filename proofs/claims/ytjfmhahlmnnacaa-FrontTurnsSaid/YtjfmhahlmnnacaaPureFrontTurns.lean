/- The pure statement of the law FrontTurns: without the document's answer: the changes of a step may come in any order, and twice; nothing is lost that stood at the front, but the view itself. -/
import Derived.Test.YtjfmhahlmnnacaaPFrontTurnsx
import Derived.Test.YtjfmhahlmnnacaaSFrontTurnsXPure
import Derived.Test.YtjfmhahlmnnacaaSFrontTurnsXOpen
namespace Go.Proofs.Ytjfmhahlmnnacaa.Pure
open Go.RowKit Go.Proofs.Ytjfmhahlmnnacaa.PFrontTurns Go.Proofs.YtjfmhahlmnnacaaW.PrintWords Go.Proofs.YtjfmhahlmnnacaaW.PrintLast Go.Proofs.YtjfmhahlmnnacaaW.PrintMore Go.Proofs.YtjfmhahlmnnacaaX
set_option linter.unusedVariables false
set_option linter.unusedSimpArgs false
abbrev V := S24
/-! sets of nodes: two numbers below 64 -/
def pc (a : Int) : Int := (bits_OnesCount.f (IntKind.u64.wrap a)).getD 0
theorem set1 (p : Int → Prop) [DecidablePred p] (h : ∀ a : Fin 64, p (a.val : Int)) {x : Int} (h0 : 0 ≤ x) (h1 : x < 64) : p x := by
  have := h ⟨x.toNat, by omega⟩
  simpa [Int.toNat_of_nonneg h0] using this
theorem set2 (p : Int → Int → Prop) (h : ∀ a b : Fin 64, p (a.val : Int) (b.val : Int)) {x y : Int} (h0 : 0 ≤ x) (h1 : x < 64) (h2 : 0 ≤ y) (h3 : y < 64) : p x y := by
  have := h ⟨x.toNat, by omega⟩ ⟨y.toNat, by omega⟩
  simpa [Int.toNat_of_nonneg h0, Int.toNat_of_nonneg h2] using this
theorem pc_some {x : Int} (h0 : 0 ≤ x) (h1 : x < 64) : bits_OnesCount.f (IntKind.u64.wrap x) = some (pc x) ∧ 0 ≤ pc x ∧ pc x ≤ 6 :=
  set1 (fun x => bits_OnesCount.f (IntKind.u64.wrap x) = some (pc x) ∧ 0 ≤ pc x ∧ pc x ≤ 6) (by decide +kernel) h0 h1
theorem size_eq {a d : Int} (a0 : 0 ≤ a) (a1 : a < 64) (d0 : 0 ≤ d) (d1 : d < 64) : change_Size.f a d = some (pc a + pc d) := by
  obtain ⟨ea, la, ua⟩ := pc_some a0 a1
  obtain ⟨ed, ld, ud⟩ := pc_some d0 d1
  unfold change_Size.f
  rw [ea, ed]
  simp only [Option.bind_some]
  rw [wrap_in (by omega) (by omega)]
theorem name_eq {a d : Int} (a0 : 0 ≤ a) (a1 : a < 64) (d0 : 0 ≤ d) (d1 : d < 64) : change_Name.f a d = some (a * 64 + d) := by
  unfold change_Name.f
  rw [wrap_in (x := a * 64) (by omega) (by omega), wrap_in (by omega) (by omega)]

/-! change.Join, Minus: or, and-not of two numbers below 64 -/
def oB (x y : Int) : Int := Go.bits .or .i64 x y
def aB (x y : Int) : Int := Go.bits .andNot .i64 x y
def In64 (x : Int) : Prop := 0 ≤ x ∧ x < 64
theorem pairs {x y : Int} (hx : In64 x) (hy : In64 y) : (0 ≤ oB x y ∧ oB x y < 64) ∧ (0 ≤ aB x y ∧ aB x y < 64) ∧ oB x y = ((x.toNat ||| y.toNat : Nat) : Int) ∧ (aB x y = 0 ↔ oB x y = y) ∧ oB (aB x y) y = oB x y ∧ aB (aB x y) y = aB x y ∧ pc (oB x y) = pc y + pc (aB x y) :=
  set2 (fun x y => (0 ≤ oB x y ∧ oB x y < 64) ∧ (0 ≤ aB x y ∧ aB x y < 64) ∧ oB x y = ((x.toNat ||| y.toNat : Nat) : Int) ∧ (aB x y = 0 ↔ oB x y = y) ∧ oB (aB x y) y = oB x y ∧ aB (aB x y) y = aB x y ∧ pc (oB x y) = pc y + pc (aB x y)) (by decide +kernel) hx.1 hx.2 hy.1 hy.2
theorem oB_in {x y : Int} (hx : In64 x) (hy : In64 y) : In64 (oB x y) := (pairs hx hy).1
theorem aB_in {x y : Int} (hx : In64 x) (hy : In64 y) : In64 (aB x y) := (pairs hx hy).2.1
theorem oB_nat {x y : Int} (hx : In64 x) (hy : In64 y) : oB x y = ((x.toNat ||| y.toNat : Nat) : Int) := (pairs hx hy).2.2.1
theorem in0 : In64 0 := ⟨by decide, by decide⟩
theorem oB_zero {x : Int} (hx : In64 x) : oB 0 x = x := by
  rw [oB_nat in0 hx]; have := hx.1; simp; omega
theorem oB_comm {x y : Int} (hx : In64 x) (hy : In64 y) : oB x y = oB y x := by
  rw [oB_nat hx hy, oB_nat hy hx, Nat.or_comm]
theorem oB_self {x : Int} (hx : In64 x) : oB x x = x := by
  rw [oB_nat hx hx, Nat.or_self]; have := hx.1; simp; omega
theorem oB_assoc {x y z : Int} (hx : In64 x) (hy : In64 y) (hz : In64 z) : oB (oB x y) z = oB x (oB y z) := by
  rw [oB_nat (oB_in hx hy) hz, oB_nat hx (oB_in hy hz), oB_nat hx hy, oB_nat hy hz, Int.toNat_natCast, Int.toNat_natCast, Nat.or_assoc]

/-! the order of views -/
def kS (v : V) : Int := (change_Size.f v.f0 v.f1).getD 0
def kN (v : V) : Int := wrap64 (wrap64 (v.f0 * 64) + v.f1)
theorem oc64_some (a : Int) : ∃ r, bits_OnesCount64.f a = some r := ⟨_, rfl⟩
theorem oc_some (a : Int) : ∃ r, bits_OnesCount.f a = some r := by
  obtain ⟨r, h⟩ := oc64_some a
  exact ⟨r, by unfold bits_OnesCount.f; rw [h]; rfl⟩
theorem kS_some (v : V) : change_Size.f v.f0 v.f1 = some (kS v) := by
  obtain ⟨r, h⟩ := oc_some (IntKind.u64.wrap v.f0)
  obtain ⟨q, k⟩ := oc_some (IntKind.u64.wrap v.f1)
  have e : change_Size.f v.f0 v.f1 = some (wrap64 (r + q)) := by
    unfold change_Size.f
    rw [h, k]; rfl
  unfold kS
  rw [e]; rfl
def vlt (a b : V) : Bool := decide (kS a < kS b ∨ kS a = kS b ∧ kN a < kN b)
theorem vlt_iff (a b : V) : vlt a b = true ↔ (kS a < kS b ∨ kS a = kS b ∧ kN a < kN b) := decide_eq_true_iff
theorem compare_int (a b : Int) : cmp_Compare_int.f a b = some (if a < b then -1 else if a > b then 1 else 0) := by
  unfold cmp_Compare_int.f cmp_isNaN_int.f
  (repeat' split) <;> simp_all
theorem or_int (a b : Int) : Ev (fun k => cmp_Or_int.f k [a, b]) (if a = 0 then b else a) := by
  have r0 : rd [a, b] 0 = a := rfl
  have r1 : rd [a, b] 1 = b := rfl
  have v0 : wrap64 (0 + 1) = 1 := by unfold wrap64; omega
  have v1 : wrap64 (1 + 1) = 2 := by unfold wrap64; omega
  have e2 : b = 0 → Ev (fun k => cmp_Or_int.l0 k 0 [a, b] 2 2) b := fun h => Ev.const fun k => by
    simp only [cmp_Or_int.l0]
    rw [if_neg (by decide), h]
  have e1 : Ev (fun k => cmp_Or_int.l0 k 0 [a, b] 2 1) b := by
    refine Ev.succ ?_
    simp only [cmp_Or_int.l0]
    rw [r1, v1]
    refine Ev.ite_pos (by decide) (Ev.ite_pos (by decide) (Ev.ite_pos (by simp) ?_))
    refine Ev.ite (fun h => ?_) (fun h => Ev.all fun k => rfl)
    exact e2 h
  show Ev (fun k => cmp_Or_int.l0 k 0 [a, b] 2 0) _
  refine Ev.succ ?_
  simp only [cmp_Or_int.l0]
  rw [r0, v0]
  refine Ev.ite_pos (by decide) (Ev.ite_pos (by decide) (Ev.ite_pos (by simp) ?_))
  by_cases h : a = 0
  · rw [if_pos h]; exact Ev.ite_pos h e1
  · rw [if_neg h]; exact Ev.ite_neg h (Ev.all fun k => rfl)
theorem name_some (v : V) : change_Name.f v.f0 v.f1 = some (kN v) := rfl
theorem view_compare_ev (a b : V) : ∃ c : Int, Ev (fun k => view_compare.f k a.f0 a.f1 b.f0 b.f1) c ∧ (c < 0 ↔ vlt a b = true) := by
  refine ⟨if (if kS a < kS b then -1 else if kS a > kS b then 1 else 0 : Int) = 0 then (if kN a < kN b then -1 else if kN a > kN b then 1 else 0) else (if kS a < kS b then -1 else if kS a > kS b then 1 else 0), ?_, ?_⟩
  · unfold view_compare.f
    refine Ev.bind_all (kS_some a) (Ev.bind_all (kS_some b) (Ev.bind_all (compare_int _ _) ?_))
    refine Ev.bind_all (name_some a) (Ev.bind_all (name_some b) (Ev.bind_all (compare_int _ _) ?_))
    exact Ev.bind (or_int _ _) (Ev.all fun k => rfl)
  · rw [vlt_iff]
    (repeat' split) <;> omega
theorem view_Less_ev (a b : V) : Ev (fun k => view_Less.f k a.f0 a.f1 b.f0 b.f1) (vlt a b) := by
  obtain ⟨c, hc, h⟩ := view_compare_ev a b
  unfold view_Less.f
  refine Ev.bind hc (Ev.all fun k => ?_)
  congr 1
  rw [Bool.eq_iff_iff, decide_eq_true_iff, h]
def RtV (v : V) : Prop := 0 ≤ v.f0 ∧ v.f0 < 64 ∧ 0 ≤ v.f1 ∧ v.f1 < 64
theorem kS_right {v : V} (h : RtV v) : kS v = pc v.f0 + pc v.f1 := by
  have := size_eq h.1 h.2.1 h.2.2.1 h.2.2.2
  rw [kS_some] at this
  exact Option.some.inj this
theorem kN_right {v : V} (h : RtV v) : kN v = v.f0 * 64 + v.f1 := by
  have := name_eq h.1 h.2.1 h.2.2.1 h.2.2.2
  rw [name_some] at this
  exact Option.some.inj this
theorem vlt_total {a b : V} (ha : RtV a) (hb : RtV b) (h : vlt a b = false) (k : a ≠ b) : vlt b a = true := by
  rw [vlt_iff]
  have h' := mt (vlt_iff a b).2 (by simp [h])
  rw [kN_right ha, kN_right hb] at *
  by_cases e : a.f0 * 64 + a.f1 = b.f0 * 64 + b.f1
  · exfalso
    apply k
    obtain ⟨a0, a1, a2, a3⟩ := ha
    obtain ⟨b0, b1, b2, b3⟩ := hb
    cases a; cases b
    simp only at *
    congr 1 <;> omega
  · omega

/-! change.Join -/
def joinL (m : Int × Int) (l : List S24) : Int × Int := l.foldl (fun m v => (oB m.1 v.f0, oB m.2 v.f1)) m
theorem change_Join_l0 (xs : List S24) (hn : xs.length < 4611686018427387904) (d : Nat) : ∀ (i : Nat) (m : Int × Int), xs.length - i = d → i ≤ xs.length →
    Ev (fun k => change_Join.l0 k xs (xs.length : Int) (i : Int) m.1 m.2) (joinL m (xs.drop i)) := by
  induction d with
  | zero =>
    intro i m hd hi
    refine Ev.const fun k => ?_
    simp only [change_Join.l0]
    rw [if_neg (by omega), List.drop_eq_nil_of_le (by omega)]
    rfl
  | succ d ih =>
    intro i m hd hi
    have hlt : i < xs.length := by omega
    rw [drop_cons hlt z24]
    refine Ev.step' (ih (i + 1) (oB m.1 (rd_T24 xs i).f0, oB m.2 (rd_T24 xs i).f1) (by omega) (by omega)) fun k => ?_
    simp only [change_Join.l0]
    rw [if_pos (by omega), if_pos (by omega), if_pos (by omega), wrap_nat (by omega)]
    rfl
theorem change_Join_ev (xs : List S24) (hn : xs.length < 4611686018427387904) : Ev (fun k => change_Join.f k xs) (joinL (0, 0) xs) := change_Join_l0 xs hn xs.length 0 (0, 0) (by omega) (by omega)

/-! front.Step: what it makes -/
def insV (v : V) : List V → List V
  | [] => [v]
  | x :: l => if (x.f0 == v.f0 && (x.f1 == v.f1)) = true then x :: l else if vlt v x = true then v :: x :: l else x :: insV v l
def joinV (a c : V) : V := ⟨(joinL (0, 0) [a, c]).1, (joinL (0, 0) [a, c]).2⟩
theorem insV_len (v : V) : ∀ l : List V, (insV v l).length ≤ l.length + 1 := by
  intro l
  induction l with
  | nil => simp [insV]
  | cons x l ih => simp only [insV]; split <;> (try split) <;> simp <;> omega
theorem step_l2 (cs : List V) (i : Nat) (at_ : V) (a1 a2 : Int) (v : V) (out : List V) (ho : out.length < 8796093022207) (R : List V × Int × Int) (d : Nat) : ∀ (j : Nat), out.length - j = d → j ≤ out.length →
    Ev (fun k => front_Step.l1 k cs (cs.length : Int) (wrap64 ((i : Int) + 1)) at_.f0 at_.f1 (out.take j ++ insV v (out.drop j)) a1 a2) R →
    Ev (fun k => front_Step.l2 k cs (cs.length : Int) (i : Int) out (out.length : Int) (j : Int) at_.f0 at_.f1 out a1 a2 v.f0 v.f1) R := by
  induction d with
  | zero =>
    intro j hd hj h
    rw [List.drop_eq_nil_of_le (by omega), List.take_of_length_le (by omega)] at h
    refine Ev.succ ?_
    simp only [front_Step.l2]
    exact Ev.ite_neg (by omega) (Ev.ite_pos (by omega) h)
  | succ d ih =>
    intro j hd hj h
    have hlt : j < out.length := by omega
    have e : rd_T24 out j = out.getD j z24 := rfl
    have hg : out.getD j z24 = out[j] := by rw [List.getD_eq_getElem?_getD, List.getElem?_eq_getElem hlt]; rfl
    have hd1 : out.drop j = out[j] :: out.drop (j + 1) := List.drop_eq_getElem_cons hlt
    have htk : out.take (j + 1) = out.take j ++ [out[j]] := by rw [List.take_add_one, List.getElem?_eq_getElem hlt]; rfl
    refine Ev.succ ?_
    simp only [front_Step.l2]
    rw [e, hg]
    refine Ev.ite_pos (by omega) (Ev.ite_pos (by omega) (Ev.ite_pos (by omega) ?_))
    by_cases h1 : (out[j].f0 == v.f0 && (out[j].f1 == v.f1)) = true
    · rw [hd1] at h
      simp only [insV] at h
      rw [if_pos h1, ← hd1, List.take_append_drop] at h
      exact Ev.ite_pos h1 h
    · refine Ev.ite_neg h1 (Ev.bind (view_Less_ev v out[j]) ?_)
      by_cases h2 : vlt v out[j] = true
      · refine Ev.ite_pos h2 ?_
        rw [hd1] at h
        simp only [insV] at h
        rw [if_neg h1, if_pos h2, ← hd1] at h
        refine Ev.bind_all (show api_View_27.f out (j : Int) [v] = some (out.take j ++ [v] ++ out.drop j) from ?_) (by simpa using h)
        unfold api_View_27.f
        rw [if_pos ⟨by omega, by omega, rfl, by omega⟩, Int.toNat_natCast]
      · refine Ev.ite_neg h2 ?_
        rw [wrap_nat (by omega)]
        refine ih (j + 1) (by omega) (by omega) ?_
        rw [hd1] at h
        simp only [insV] at h
        rw [if_neg h1, if_neg h2] at h
        rw [htk, List.append_assoc]
        exact h
def insAll (at_ : V) (cs : List V) (out : List V) : List V := cs.foldl (fun o c => insV (joinV at_ c) o) out
def unlike (at_ : V) (l : List V) : List V := l.filter fun v => (!(v.f0 == at_.f0) || (!(v.f1 == at_.f1)))

/-! front.Step: the views stay in order -/
def vstrict (l : List V) : Prop := l.Pairwise fun a b => vlt a b = true
theorem v_eq {x v : V} : (x.f0 == v.f0 && (x.f1 == v.f1)) = true ↔ x = v := by
  rw [Bool.and_eq_true, beq_iff_eq, beq_iff_eq]
  constructor
  · rintro ⟨h, k⟩
    cases x; cases v
    simp only at h k
    subst h; subst k; rfl
  · rintro rfl; exact ⟨rfl, rfl⟩
theorem v_ne {x v : V} : (!(x.f0 == v.f0) || (!(x.f1 == v.f1))) = true ↔ x ≠ v := by
  rw [← Bool.not_and, Bool.not_eq_true', ← Bool.not_eq_true]
  exact not_congr v_eq
theorem vl_trans {a b c : V} (h : vlt a b = true) (k : vlt b c = true) : vlt a c = true := by
  rw [vlt_iff] at h k ⊢; omega
theorem vl_irrefl (a : V) : vlt a a = false := by
  rw [Bool.eq_false_iff]; intro e; have := (vlt_iff a a).1 e; omega
theorem insV_mem (v w : V) (l : List V) : w ∈ insV v l ↔ (w = v ∨ w ∈ l) := by
  induction l with
  | nil => simp [insV]
  | cons x l ih =>
    simp only [insV]
    split
    · rename_i h
      have := v_eq.1 h
      subst this
      simp
    · split
      · simp
      · rw [List.mem_cons, ih, List.mem_cons]
        constructor
        · rintro (h | h | h)
          · exact .inr (.inl h)
          · exact .inl h
          · exact .inr (.inr h)
        · rintro (h | h | h)
          · exact .inr (.inl h)
          · exact .inl h
          · exact .inr (.inr h)
theorem insV_strict {v : V} (hv : RtV v) {l : List V} (hr : ∀ x ∈ l, RtV x) (h : vstrict l) : vstrict (insV v l) := by
  induction l with
  | nil => simp [insV, vstrict]
  | cons x l ih =>
    have hx := hr x (List.mem_cons_self ..)
    obtain ⟨p, q⟩ := List.pairwise_cons.1 h
    simp only [insV]
    split
    · exact h
    · rename_i hne
      split
      · rename_i hl
        refine List.pairwise_cons.2 ⟨fun w hw => ?_, h⟩
        rcases List.mem_cons.1 hw with rfl | hw
        · exact hl
        · exact vl_trans hl (p w hw)
      · rename_i hl
        refine List.pairwise_cons.2 ⟨fun w hw => ?_, ih (fun y hy => hr y (List.mem_cons_of_mem _ hy)) q⟩
        rcases (insV_mem v w l).1 hw with rfl | hw
        · exact vlt_total hv hx (Bool.eq_false_iff.2 hl) fun e => hne (v_eq.2 e.symm)
        · exact p w hw
theorem insAll_mem (at_ : V) (cs : List V) : ∀ (out : List V) (w : V), w ∈ insAll at_ cs out ↔ (w ∈ out ∨ ∃ c ∈ cs, w = joinV at_ c) := by
  induction cs with
  | nil => intro out w; simp [insAll]
  | cons c cs ih =>
    intro out w
    show w ∈ insAll at_ cs (insV (joinV at_ c) out) ↔ _
    rw [ih, insV_mem]
    constructor
    · rintro ((h | h) | ⟨x, hx, e⟩)
      · exact .inr ⟨c, List.mem_cons_self .., h⟩
      · exact .inl h
      · exact .inr ⟨x, List.mem_cons_of_mem _ hx, e⟩
    · rintro (h | ⟨x, hx, e⟩)
      · exact .inl (.inr h)
      · rcases List.mem_cons.1 hx with rfl | hx
        · exact .inl (.inl e)
        · exact .inr ⟨x, hx, e⟩
theorem joinV_right {a c : V} (ha : RtV a) (hc : RtV c) : RtV (joinV a c) := by
  have h0 := oB_in (oB_in in0 ⟨ha.1, ha.2.1⟩) ⟨hc.1, hc.2.1⟩
  have h1 := oB_in (oB_in in0 ⟨ha.2.2.1, ha.2.2.2⟩) ⟨hc.2.2.1, hc.2.2.2⟩
  exact ⟨h0.1, h0.2, h1.1, h1.2⟩
theorem insAll_right {at_ : V} (ha : RtV at_) {cs : List V} (hc : ∀ c ∈ cs, RtV c) {out : List V} (ho : ∀ x ∈ out, RtV x) : ∀ x ∈ insAll at_ cs out, RtV x := fun x hx => by
  rcases (insAll_mem at_ cs out x).1 hx with h | ⟨c, hc', rfl⟩
  · exact ho x h
  · exact joinV_right ha (hc c hc')
theorem insAll_strict {at_ : V} (ha : RtV at_) : ∀ {cs : List V}, (∀ c ∈ cs, RtV c) → ∀ {out : List V}, (∀ x ∈ out, RtV x) → vstrict out → vstrict (insAll at_ cs out) := by
  intro cs
  induction cs with
  | nil => intro _ out _ h; exact h
  | cons c cs ih =>
    intro hc out ho h
    have hj := joinV_right ha (hc c (List.mem_cons_self ..))
    refine ih (fun x hx => hc x (List.mem_cons_of_mem _ hx)) (out := insV (joinV at_ c) out) (fun x hx => ?_) (insV_strict hj ho h)
    rcases (insV_mem _ _ _).1 hx with rfl | hx
    · exact hj
    · exact ho x hx
theorem unlike_mem (at_ w : V) (l : List V) : w ∈ unlike at_ l ↔ (w ∈ l ∧ w ≠ at_) := by
  unfold unlike
  rw [List.mem_filter]
  exact and_congr Iff.rfl v_ne
theorem unlike_strict {at_ : V} {l : List V} (h : vstrict l) : vstrict (unlike at_ l) := h.sublist List.filter_sublist
/-- two lists in order with the same members are one -/
theorem strict_ext {l m : List V} (hl : vstrict l) (hm : vstrict m) (h : ∀ w, w ∈ l ↔ w ∈ m) : l = m := by
  induction l generalizing m with
  | nil =>
    cases m with
    | nil => rfl
    | cons y m => exact absurd ((h y).2 (List.mem_cons_self ..)) (by simp)
  | cons x l ih =>
    cases m with
    | nil => exact absurd ((h x).1 (List.mem_cons_self ..)) (by simp)
    | cons y m =>
      obtain ⟨p, q⟩ := List.pairwise_cons.1 hl
      obtain ⟨p', q'⟩ := List.pairwise_cons.1 hm
      have asym : ∀ {a b : V}, vlt a b = true → vlt b a = true → False := fun h1 h2 => by
        have := vl_trans h1 h2
        rw [vl_irrefl] at this
        cases this
      have hxy : x = y := by
        rcases List.mem_cons.1 ((h x).1 (List.mem_cons_self ..)) with e | hx
        · exact e
        · rcases List.mem_cons.1 ((h y).2 (List.mem_cons_self ..)) with e | hy
          · exact e.symm
          · exact (asym (p y hy) (p' x hx)).elim
      subst hxy
      rw [ih q q' fun w => ?_]
      constructor
      · intro hw
        rcases List.mem_cons.1 ((h w).1 (List.mem_cons_of_mem _ hw)) with e | hw'
        · subst e; exact (asym (p w hw) (p w hw)).elim
        · exact hw'
      · intro hw
        rcases List.mem_cons.1 ((h w).2 (List.mem_cons_of_mem _ hw)) with e | hw'
        · subst e; exact (asym (p' w hw) (p' w hw)).elim
        · exact hw'

/-! front.Step, whole -/
theorem nodup_le {l : List V} (h : l.Nodup) : ∀ {m : List V}, (∀ v ∈ l, v ∈ m) → l.length ≤ m.length := by
  induction l with
  | nil => intro m _; exact Nat.zero_le _
  | cons v l ih =>
    intro m k
    obtain ⟨p, q, rfl⟩ := List.append_of_mem (k v (List.mem_cons_self ..))
    have h' := List.nodup_cons.1 h
    have := ih h'.2 (m := p ++ q) fun w hw => by
      have hw2 := k w (List.mem_cons_of_mem _ hw)
      rcases List.mem_append.1 hw2 with h0 | h0
      · exact List.mem_append_left _ h0
      · rcases List.mem_cons.1 h0 with rfl | h0
        · exact absurd hw h'.1
        · exact List.mem_append_right _ h0
    simp at this ⊢
    omega
theorem strict_nodup {l : List V} (h : vstrict l) : l.Nodup := h.imp fun {a b} hab e => by
  subst e
  rw [vl_irrefl] at hab
  cases hab
theorem right_len {l : List V} (h : vstrict l) (hr : ∀ v ∈ l, RtV v) : l.length ≤ 4096 := by
  have := nodup_le (strict_nodup h) (m := (List.range 4096).map fun n => (⟨((n / 64 : Nat) : Int), ((n % 64 : Nat) : Int)⟩ : V)) fun v hv => by
    obtain ⟨a, b, c, d⟩ := hr v hv
    refine List.mem_map.2 ⟨v.f0.toNat * 64 + v.f1.toNat, List.mem_range.2 (by omega), ?_⟩
    have e1 : (v.f0.toNat * 64 + v.f1.toNat) / 64 = v.f0.toNat := by omega
    have e2 : (v.f0.toNat * 64 + v.f1.toNat) % 64 = v.f1.toNat := by omega
    rw [e1, e2, Int.toNat_of_nonneg a, Int.toNat_of_nonneg c]
  rw [List.length_map, List.length_range] at this
  exact this
theorem step_l1 (cs : List V) (hc : cs.length < 4611686018427387904) (at_ : V) (ha : RtV at_) (hcr : ∀ c ∈ cs, RtV c) (a1 a2 : Int) (d : Nat) : ∀ (i : Nat) (out : List V), vstrict out → (∀ x ∈ out, RtV x) → cs.length - i = d → i ≤ cs.length →
    Ev (fun k => front_Step.l1 k cs (cs.length : Int) (i : Int) at_.f0 at_.f1 out a1 a2) (insAll at_ (cs.drop i) out, a1, a2) := by
  induction d with
  | zero =>
    intro i out hs ho hd hi
    refine Ev.const fun k => ?_
    simp only [front_Step.l1]
    rw [if_neg (by omega), List.drop_eq_nil_of_le (by omega)]
    rfl
  | succ d ih =>
    intro i out hs ho hd hi
    have hlt : i < cs.length := by omega
    have e : rd_T24 cs i = cs.getD i z24 := rfl
    rw [drop_cons hlt z24]
    refine Ev.succ ?_
    simp only [front_Step.l1]
    rw [e]
    have hcm : RtV (cs.getD i z24) := hcr _ (by rw [List.getD_eq_getElem?_getD, List.getElem?_eq_getElem hlt]; exact List.getElem_mem hlt)
    generalize hx : cs.getD i z24 = c at hcm
    have hj := joinV_right ha hcm
    have hlen := right_len hs ho
    refine Ev.ite_pos (by omega) (Ev.ite_pos (by omega) (Ev.ite_pos (by omega) ?_))
    refine Ev.bind (change_Join_ev [at_, c] (by simp)) ?_
    have hl := insV_len (joinV at_ c) out
    refine step_l2 cs i at_ a1 a2 (joinV at_ c) out (by omega) _ out.length 0 (by omega) (by omega) ?_
    rw [List.take_zero, List.nil_append, List.drop_zero, wrap_nat (by omega)]
    exact ih (i + 1) (insV (joinV at_ c) out) (insV_strict hj ho hs) (fun x hx => ((insV_mem _ _ _).1 hx).elim (fun e => e ▸ hj) (ho x)) (by omega) (by omega)
theorem step_l0 (cs : List V) (hc : cs.length < 4611686018427387904) (l l' : List V) (at_ : V) (m1 m2 : Int) (x y : Int) (ha : RtV at_) (hcr : ∀ c ∈ cs, RtV c) (hl : l.length < 8796093022207) (hls : vstrict l) (hlr : ∀ x ∈ l, RtV x) (d : Nat) : ∀ (i : Nat) (out : List V), out = unlike at_ (l.take i) → l.length - i = d → i ≤ l.length →
    Ev (fun k => front_Step.l0 k cs l (l.length : Int) (i : Int) l' m1 m2 at_.f0 at_.f1 out x y) (insAll at_ cs (out ++ unlike at_ (l.drop i)), (joinL (0, 0) [⟨m1, m2⟩, ⟨(joinL (0, 0) cs).1, (joinL (0, 0) cs).2⟩])) := by
  induction d with
  | zero =>
    intro i out ho hd hi
    have hol : out.length ≤ i := by rw [ho]; exact Nat.le_trans (List.length_filter_le _ _) (by rw [List.length_take]; omega)
    refine Ev.succ ?_
    simp only [front_Step.l0]
    refine Ev.ite_neg (by omega) ?_
    refine Ev.bind (change_Join_ev cs hc) (Ev.bind (change_Join_ev _ (by simp)) ?_)
    rw [List.drop_eq_nil_of_le (by omega), show unlike at_ [] = [] from rfl, List.append_nil]
    rw [List.take_of_length_le (by omega)] at ho
    subst ho
    exact step_l1 cs hc at_ ha hcr _ _ cs.length 0 _ (unlike_strict hls) (fun x hx => hlr x ((unlike_mem _ _ _).1 hx).1) (by omega) (by omega)
  | succ d ih =>
    intro i out ho hd hi
    have hol : out.length ≤ i := by rw [ho]; exact Nat.le_trans (List.length_filter_le _ _) (by rw [List.length_take]; omega)
    have hlt : i < l.length := by omega
    have e : rd_T24 l i = l.getD i z24 := rfl
    rw [drop_cons hlt z24]
    refine Ev.succ ?_
    simp only [front_Step.l0]
    rw [e, wrap_nat (by omega)]
    have htk : l.take (i + 1) = l.take i ++ [l.getD i z24] := by rw [List.take_add_one, List.getElem?_eq_getElem hlt, List.getD_eq_getElem?_getD, List.getElem?_eq_getElem hlt]; rfl
    generalize hx : l.getD i z24 = v at htk
    refine Ev.ite_pos (by omega) (Ev.ite_pos (by omega) (Ev.ite_pos (by omega) ?_))
    by_cases h1 : (!(v.f0 == at_.f0) || (!(v.f1 == at_.f1))) = true
    · refine Ev.ite_pos h1 (Ev.ite_pos (by omega) ?_)
      have := ih (i + 1) (out ++ [v]) (by rw [htk, ho]; unfold unlike; rw [List.filter_append, List.filter_cons, if_pos h1]; rfl) (by omega) (by omega)
      rw [List.append_assoc] at this
      rw [show unlike at_ (v :: l.drop (i + 1)) = v :: unlike at_ (l.drop (i + 1)) by unfold unlike; rw [List.filter_cons, if_pos h1]]
      exact this
    · refine Ev.ite_neg h1 ?_
      rw [show unlike at_ (v :: l.drop (i + 1)) = unlike at_ (l.drop (i + 1)) by unfold unlike; rw [List.filter_cons, if_neg h1]]
      exact ih (i + 1) out (by rw [htk, ho]; unfold unlike; rw [List.filter_append, List.filter_cons, if_neg h1]; simp) (by omega) (by omega)
theorem step_ev (l cs : List V) (m1 m2 : Int) (at_ : V) (h0 : cs ≠ []) (hc : cs.length < 4611686018427387904) (ha : RtV at_) (hcr : ∀ c ∈ cs, RtV c) (hls : vstrict l) (hlr : ∀ x ∈ l, RtV x) : Ev (fun k => front_Step.f k l m1 m2 at_.f0 at_.f1 cs) (insAll at_ cs (unlike at_ l), (joinL (0, 0) [⟨m1, m2⟩, ⟨(joinL (0, 0) cs).1, (joinL (0, 0) cs).2⟩])) := by
  unfold front_Step.f
  have hp : 0 < cs.length := List.length_pos_iff.2 h0
  refine Ev.ite_neg (by omega) ?_
  have hlen := right_len hls hlr
  have := step_l0 cs hc l l at_ m1 m2 0 0 ha hcr (by omega) hls hlr l.length 0 [] (by simp [unlike]) (by omega) (by omega)
  rw [List.drop_zero, List.nil_append] at this
  exact this

/-! views within views -/
theorem pc_zero {x : Int} (h : In64 x) : pc x = 0 ↔ x = 0 := set1 (fun x => pc x = 0 ↔ x = 0) (by decide +kernel) h.1 h.2
theorem pc_nonneg {x : Int} (h : In64 x) : 0 ≤ pc x := (pc_some h.1 h.2).2.1
theorem aB_zero {x y : Int} (hx : In64 x) (hy : In64 y) : aB x y = 0 ↔ oB x y = y := (pairs hx hy).2.2.2.1
theorem pc_or {x y : Int} (hx : In64 x) (hy : In64 y) : pc (oB x y) = pc y + pc (aB x y) := (pairs hx hy).2.2.2.2.2.2
theorem sub_trans {x y z : Int} (hx : In64 x) (hy : In64 y) (hz : In64 z) (h : aB x y = 0) (k : aB y z = 0) : aB x z = 0 := by
  rw [aB_zero hx hy] at h
  rw [aB_zero hy hz] at k
  rw [aB_zero hx hz, ← k, ← oB_assoc hx hy hz, h]
theorem sub_pc {x y : Int} (hx : In64 x) (hy : In64 y) (h : aB x y = 0) : pc x ≤ pc y ∧ (pc y ≤ pc x → x = y) := by
  rw [aB_zero hx hy] at h
  have e := pc_or hy hx
  rw [oB_comm hy hx, h] at e
  have n := pc_nonneg (aB_in hy hx)
  refine ⟨by omega, fun k => ?_⟩
  have z : aB y x = 0 := (pc_zero (aB_in hy hx)).1 (by omega)
  rw [aB_zero hy hx, oB_comm hy hx, h] at z
  exact z.symm
def wiP (x y : V) : Prop := aB x.f0 y.f0 = 0 ∧ aB x.f1 y.f1 = 0
theorem RtV.l {v : V} (h : RtV v) : In64 v.f0 := ⟨h.1, h.2.1⟩
theorem RtV.r {v : V} (h : RtV v) : In64 v.f1 := ⟨h.2.2.1, h.2.2.2⟩
theorem wiP_trans {x y z : V} (hx : RtV x) (hy : RtV y) (hz : RtV z) (h : wiP x y) (k : wiP y z) : wiP x z := ⟨sub_trans hx.l hy.l hz.l h.1 k.1, sub_trans hx.r hy.r hz.r h.2 k.2⟩
theorem wiP_refl {x : V} (hx : RtV x) : wiP x x := ⟨(aB_zero hx.l hx.l).2 (oB_self hx.l), (aB_zero hx.r hx.r).2 (oB_self hx.r)⟩
theorem wiP_size {x y : V} (hx : RtV x) (hy : RtV y) (h : wiP x y) : kS x ≤ kS y ∧ (kS y ≤ kS x → x = y) := by
  rw [kS_right hx, kS_right hy]
  have h1 := sub_pc hx.l hy.l h.1
  have h2 := sub_pc hx.r hy.r h.2
  refine ⟨by omega, fun k => ?_⟩
  have e1 := h1.2 (by omega)
  have e2 := h2.2 (by omega)
  cases x; cases y
  simp only at e1 e2
  rw [e1, e2]

/-! joins of views that are right -/
theorem joinV_eq {a c : V} (ha : RtV a) : joinV a c = ⟨oB a.f0 c.f0, oB a.f1 c.f1⟩ := by
  show (⟨oB (oB 0 a.f0) c.f0, oB (oB 0 a.f1) c.f1⟩ : V) = _
  rw [oB_zero ha.l, oB_zero ha.r]
theorem sub_or {x y : Int} (hx : In64 x) (hy : In64 y) : aB x (oB x y) = 0 := by
  rw [aB_zero hx (oB_in hx hy), ← oB_assoc hx hx hy, oB_self hx]
theorem sub_or' {x y : Int} (hx : In64 x) (hy : In64 y) : aB y (oB x y) = 0 := by
  rw [oB_comm hx hy]; exact sub_or hy hx
theorem or_sub {x y z : Int} (hx : In64 x) (hy : In64 y) (hz : In64 z) (h : aB x z = 0) (k : aB y z = 0) : aB (oB x y) z = 0 := by
  rw [aB_zero hx hz] at h
  rw [aB_zero hy hz] at k
  rw [aB_zero (oB_in hx hy) hz, oB_assoc hx hy hz, k, h]
theorem wi_left {a c : V} (ha : RtV a) (hc : RtV c) : wiP a (joinV a c) := by
  rw [joinV_eq ha]; exact ⟨sub_or ha.l hc.l, sub_or ha.r hc.r⟩
theorem wi_right {a c : V} (ha : RtV a) (hc : RtV c) : wiP c (joinV a c) := by
  rw [joinV_eq ha]; exact ⟨sub_or' ha.l hc.l, sub_or' ha.r hc.r⟩
theorem wi_join {a c z : V} (ha : RtV a) (hc : RtV c) (hz : RtV z) (h : wiP a z) (k : wiP c z) : wiP (joinV a c) z := by
  rw [joinV_eq ha]; exact ⟨or_sub ha.l hc.l hz.l h.1 k.1, or_sub ha.r hc.r hz.r h.2 k.2⟩
theorem v00 : RtV ⟨0, 0⟩ := ⟨by decide, by decide, by decide, by decide⟩
theorem joinL_all (cs : List V) : ∀ m : V, RtV m → (∀ c ∈ cs, RtV c) → RtV ⟨(joinL (m.f0, m.f1) cs).1, (joinL (m.f0, m.f1) cs).2⟩ ∧ wiP m ⟨(joinL (m.f0, m.f1) cs).1, (joinL (m.f0, m.f1) cs).2⟩ ∧ ∀ c ∈ cs, wiP c ⟨(joinL (m.f0, m.f1) cs).1, (joinL (m.f0, m.f1) cs).2⟩ := by
  induction cs with
  | nil => intro m hm _; exact ⟨hm, wiP_refl hm, fun c hc => by simp at hc⟩
  | cons c cs ih =>
    intro m hm hc
    have h1 := hc c (List.mem_cons_self ..)
    have hj := joinV_right hm h1
    have e : joinL (m.f0, m.f1) (c :: cs) = joinL ((joinV m c).f0, (joinV m c).f1) cs := by rw [joinV_eq hm]; rfl
    obtain ⟨r, w, a⟩ := ih (joinV m c) hj fun x hx => hc x (List.mem_cons_of_mem _ hx)
    rw [e]
    refine ⟨r, wiP_trans hm hj r (wi_left hm h1) w, fun x hx => ?_⟩
    rcases List.mem_cons.1 hx with rfl | hx
    · exact wiP_trans h1 hj r (wi_right hm h1) w
    · exact a x hx
/-- what holds of a front: its views and its aim -/
def FInv (l : List V) (aim : V) : Prop := l ≠ [] ∧ vstrict l ∧ (∀ v ∈ l, RtV v ∧ wiP v aim) ∧ RtV aim
def aimOf (aim : V) (cs : List V) : V := joinV aim ⟨(joinL (0, 0) cs).1, (joinL (0, 0) cs).2⟩
theorem vlt_size {a b : V} (h : vlt a b = true) : kS a ≤ kS b := by
  have := (vlt_iff a b).1 h; omega
theorem aim_facts {aim : V} (ha : RtV aim) {cs : List V} (hc : ∀ c ∈ cs, RtV c) : RtV (aimOf aim cs) ∧ wiP aim (aimOf aim cs) ∧ ∀ c ∈ cs, wiP c (aimOf aim cs) := by
  obtain ⟨r, _, w⟩ := joinL_all cs ⟨0, 0⟩ v00 hc
  have hj := joinV_right ha r
  exact ⟨hj, wi_left ha r, fun c h => wiP_trans (hc c h) r hj (w c h) (wi_right ha r)⟩
theorem step_inv {x : V} {l : List V} {aim : V} (hf : FInv (x :: l) aim) {cs : List V} (h0 : cs ≠ []) (hc : ∀ c ∈ cs, RtV c) (hn : ∀ c ∈ cs, ¬ wiP c x) :
    FInv (insAll x cs (unlike x (x :: l))) (aimOf aim cs) ∧ ∀ w ∈ insAll x cs (unlike x (x :: l)), w ≠ x ∧ kS x ≤ kS w := by
  obtain ⟨_, hs, hm, ha⟩ := hf
  obtain ⟨hx, hxa⟩ := hm x (List.mem_cons_self ..)
  obtain ⟨har, haw, hac⟩ := aim_facts ha hc
  have hr : ∀ w ∈ x :: l, RtV w := fun w hw => (hm w hw).1
  have hu : ∀ w ∈ unlike x (x :: l), RtV w := fun w hw => hr w ((unlike_mem _ _ _).1 hw).1
  refine ⟨⟨fun e => ?_, insAll_strict hx hc hu (unlike_strict hs), fun w hw => ⟨insAll_right hx hc hu w hw, ?_⟩, har⟩, fun w hw => ?_⟩
  · obtain ⟨c, cs', rfl⟩ := List.exists_cons_of_ne_nil h0
    have := (insAll_mem x (c :: cs') (unlike x (x :: l)) (joinV x c)).2 (.inr ⟨c, List.mem_cons_self .., rfl⟩)
    rw [e] at this
    simp at this
  · rcases (insAll_mem x cs _ w).1 hw with h | ⟨c, h, rfl⟩
    · have := hm w ((unlike_mem _ _ _).1 h).1
      exact wiP_trans this.1 ha har this.2 haw
    · exact wi_join hx (hc c h) har (wiP_trans hx ha har hxa haw) (hac c h)
  · rcases (insAll_mem x cs _ w).1 hw with h | ⟨c, h, rfl⟩
    · obtain ⟨h1, h2⟩ := (unlike_mem _ _ _).1 h
      refine ⟨h2, ?_⟩
      rcases List.mem_cons.1 h1 with e | h1
      · exact absurd e h2
      · exact vlt_size ((List.pairwise_cons.1 hs).1 w h1)
    · refine ⟨fun e => hn c h ?_, (wiP_size hx (joinV_right hx (hc c h)) (wi_left hx (hc c h))).1⟩
      have := wi_right hx (hc c h)
      rw [e] at this
      exact this
/-- where the least view is the aim, it is alone -/
theorem alone {x : V} {l : List V} {aim : V} (hf : FInv (x :: l) aim) (h : x = aim) : l = [] := by
  subst h
  obtain ⟨_, hs, hm, ha⟩ := hf
  cases l with
  | nil => rfl
  | cons y l =>
    exfalso
    have hlt := (List.pairwise_cons.1 hs).1 y (List.mem_cons_self ..)
    obtain ⟨hy, hw⟩ := hm y (List.mem_cons_of_mem _ (List.mem_cons_self ..))
    have := (wiP_size hy ha hw).2 (vlt_size hlt)
    subst this
    rw [vl_irrefl] at hlt
    cases hlt
theorem want_join {v aim : V} (hv : RtV v) (ha : RtV aim) (h : wiP v aim) : oB v.f0 (aB aim.f0 v.f0) = aim.f0 ∧ oB v.f1 (aB aim.f1 v.f1) = aim.f1 := by
  have key : ∀ {x y : Int}, In64 x → In64 y → aB x y = 0 → oB x (aB y x) = y := fun {x y} hx hy h => by
    rw [oB_comm hx (aB_in hy hx), (pairs hy hx).2.2.2.2.1, oB_comm hy hx]
    exact (aB_zero hx hy).1 h
  exact ⟨key hv.l ha.l h.1, key hv.r ha.r h.2⟩

theorem ref_Right_eq (a d : Int) : ropewayref04_Right.f a d = some (decide (0 ≤ a ∧ a < 64 ∧ 0 ≤ d ∧ d < 64)) := by
  unfold ropewayref04_Right.f
  by_cases h1 : a ≥ 0
  · rw [if_pos h1]
    by_cases h2 : a ≤ 63
    · rw [if_pos h2]
      by_cases h3 : d ≥ 0
      · rw [if_pos h3, Option.some.injEq, decide_eq_decide]; omega
      · rw [if_neg h3, decide_eq_false (by omega)]
    · rw [if_neg h2, decide_eq_false (by omega)]
  · rw [if_neg h1, decide_eq_false (by omega)]

/-! the front's law: its own words -/
def rtB (v : V) : Bool := decide (0 ≤ v.f0 ∧ v.f0 < 64 ∧ 0 ≤ v.f1 ∧ v.f1 < 64)
theorem rtB_iff (v : V) : rtB v = true ↔ RtV v := decide_eq_true_iff
theorem right_l0 (xs : List V) (hn : xs.length < 4611686018427387904) (d : Nat) : ∀ (i : Nat), xs.length - i = d → i ≤ xs.length →
    Ev (fun k => ropewaylaw16_right.l0 k xs (xs.length : Int) (i : Int)) ((xs.drop i).all rtB) := by
  induction d with
  | zero =>
    intro i hd hi
    refine Ev.const fun k => ?_
    simp only [ropewaylaw16_right.l0]
    rw [if_neg (by omega), List.drop_eq_nil_of_le (by omega)]
    rfl
  | succ d ih =>
    intro i hd hi
    have hlt : i < xs.length := by omega
    have e : rd_T24 xs i = xs.getD i z24 := rfl
    rw [drop_cons hlt z24]
    refine Ev.succ ?_
    simp only [ropewaylaw16_right.l0]
    rw [e, wrap_nat (by omega)]
    generalize hx : xs.getD i z24 = x
    refine Ev.ite_pos (by omega) (Ev.ite_pos (by omega) (Ev.ite_pos (by omega) (Ev.bind_all (ref_Right_eq _ _) ?_)))
    rw [List.all_cons]
    refine Ev.ite (fun h => ?_) (fun h => ?_)
    · rw [show rtB x = true from h, Bool.true_and]
      exact ih (i + 1) (by omega) (by omega)
    · rw [show rtB x = false from Bool.eq_false_iff.2 h, Bool.false_and]
      exact Ev.all fun k => rfl
theorem right_ev (xs : List V) (hn : xs.length < 4611686018427387904) : Ev (fun k => ropewaylaw16_right.f k xs) (xs.all rtB) := right_l0 xs hn xs.length 0 (by omega) (by omega)

/-! ropewayref05.Same of a list and itself -/
theorem vsame_l0 (xs : List V) (hn : xs.length < 4611686018427387904) (d : Nat) : ∀ (i : Nat), xs.length - i = d → i ≤ xs.length →
    Ev (fun k => ropewayref05_Same.l0 k xs xs (xs.length : Int) (i : Int)) true := by
  induction d with
  | zero =>
    intro i hd hi
    refine Ev.const fun k => ?_
    simp only [ropewayref05_Same.l0]
    rw [if_neg (by omega)]
  | succ d ih =>
    intro i hd hi
    refine Ev.succ ?_
    simp only [ropewayref05_Same.l0]
    refine Ev.ite_pos (by omega) (Ev.ite_pos (by omega) (Ev.ite_pos (by omega) (Ev.ite_pos (by omega) (Ev.ite_neg (by simp) ?_))))
    rw [wrap_nat (by omega)]
    exact ih (i + 1) (by omega) (by omega)
theorem vsame_ev (xs : List V) (hn : xs.length < 4611686018427387904) : Ev (fun k => ropewayref05_Same.f k xs xs) true := by
  unfold ropewayref05_Same.f
  exact Ev.ite_pos rfl (vsame_l0 xs hn xs.length 0 (by omega) (by omega))

/-! a step, whatever is changed -/
theorem least_some {x : V} {l : List V} (a b : Int) : front_Least.f (x :: l) a b = some (x.f0, x.f1) := by
  unfold front_Least.f
  rw [if_neg (by rw [List.length_cons]; omega), if_pos (by rw [List.length_cons]; omega)]
  rfl
theorem step_any {l : List V} {aim : V} (hf : FInv l aim) {x : V} (hxl : x ∈ l) {cs : List V} (h0 : cs ≠ []) (hc : ∀ c ∈ cs, RtV c) :
    FInv (insAll x cs (unlike x l)) (aimOf aim cs) := by
  obtain ⟨_, hs, hm, ha⟩ := hf
  obtain ⟨hx, hxa⟩ := hm x hxl
  obtain ⟨har, haw, hac⟩ := aim_facts ha hc
  have hr : ∀ w ∈ l, RtV w := fun w hw => (hm w hw).1
  have hu : ∀ w ∈ unlike x l, RtV w := fun w hw => hr w ((unlike_mem _ _ _).1 hw).1
  refine ⟨fun e => ?_, insAll_strict hx hc hu (unlike_strict hs), fun w hw => ⟨insAll_right hx hc hu w hw, ?_⟩, har⟩
  · obtain ⟨c, cs', rfl⟩ := List.exists_cons_of_ne_nil h0
    have := (insAll_mem x (c :: cs') (unlike x l) (joinV x c)).2 (.inr ⟨c, List.mem_cons_self .., rfl⟩)
    rw [e] at this
    simp at this
  · rcases (insAll_mem x cs _ w).1 hw with h | ⟨c, h, rfl⟩
    · have := hm w ((unlike_mem _ _ _).1 h).1
      exact wiP_trans this.1 ha har this.2 haw
    · exact wi_join hx (hc c h) har (wiP_trans hx ha har hxa haw) (hac c h)
def nextL (x : V) (cs l : List V) : List V := if cs = [] then l else insAll x cs (unlike x l)
def nextA (aim : V) (cs : List V) : V := if cs = [] then aim else aimOf aim cs
theorem next_inv {l : List V} {aim : V} (hf : FInv l aim) {x : V} (hxl : x ∈ l) {cs : List V} (hc : ∀ c ∈ cs, RtV c) : FInv (nextL x cs l) (nextA aim cs) := by
  unfold nextL nextA
  by_cases h0 : cs = []
  · rw [if_pos h0, if_pos h0]; exact hf
  · rw [if_neg h0, if_neg h0]; exact step_any hf hxl h0 hc
theorem fstep_ev {l : List V} {aim : V} (hf : FInv l aim) {x : V} (hxl : x ∈ l) {cs : List V} (hl : cs.length ≤ 4096) (hc : ∀ c ∈ cs, RtV c) : Ev (fun k => front_Step.f k l aim.f0 aim.f1 x.f0 x.f1 cs) (nextL x cs l, (nextA aim cs).f0, (nextA aim cs).f1) := by
  have hr : ∀ v ∈ l, RtV v := fun v hv => (hf.2.2.1 v hv).1
  unfold nextL nextA
  by_cases h0 : cs = []
  · rw [if_pos h0, if_pos h0]
    subst h0
    have hlen := right_len hf.2.1 hr
    unfold front_Step.f
    refine Ev.ite_pos rfl (Ev.bind_all (show api_View_26.f l = some l from ?_) (Ev.all fun k => rfl))
    unfold api_View_26.f
    have hb : l.length < 8796093022208 := by omega
    simp only [List.nil_append, List.length_nil, Nat.zero_add, Option.bind_some]
    rw [if_pos hb]
  · rw [if_neg h0, if_neg h0]
    exact step_ev l cs aim.f0 aim.f1 x h0 (by omega) (hr x hxl) hc hf.2.1 hr

theorem joinL_least (cs : List V) : ∀ m z : V, RtV m → RtV z → (∀ c ∈ cs, RtV c ∧ wiP c z) → wiP m z → wiP ⟨(joinL (m.f0, m.f1) cs).1, (joinL (m.f0, m.f1) cs).2⟩ z := by
  induction cs with
  | nil => intro m z _ _ _ h; exact h
  | cons c cs ih =>
    intro m z hm hz hc h
    obtain ⟨h1, h2⟩ := hc c (List.mem_cons_self ..)
    have e : joinL (m.f0, m.f1) (c :: cs) = joinL ((joinV m c).f0, (joinV m c).f1) cs := by rw [joinV_eq hm]; rfl
    rw [e]
    exact ih (joinV m c) z (joinV_right hm h1) hz (fun x hx => hc x (List.mem_cons_of_mem _ hx)) (wi_join hm h1 hz h h2)
theorem wiP_zero {z : V} (hz : RtV z) : wiP ⟨0, 0⟩ z := ⟨(aB_zero in0 hz.l).2 (oB_zero hz.l), (aB_zero in0 hz.r).2 (oB_zero hz.r)⟩
theorem aimOf_least {aim z : V} (ha : RtV aim) (hz : RtV z) {cs : List V} (hc : ∀ c ∈ cs, RtV c ∧ wiP c z) (h : wiP aim z) : wiP (aimOf aim cs) z := by
  obtain ⟨r, _, _⟩ := joinL_all cs ⟨0, 0⟩ v00 (fun c h => (hc c h).1)
  exact wi_join ha r hz h (joinL_least cs ⟨0, 0⟩ z v00 hz hc (wiP_zero hz))
theorem wiP_anti {x y : V} (hx : RtV x) (hy : RtV y) (h : wiP x y) (k : wiP y x) : x = y := (wiP_size hx hy h).2 (wiP_size hy hx k).1
theorem aimOf_same {aim : V} (ha : RtV aim) {cs ds : List V} (hc : ∀ c ∈ cs, RtV c) (h : ∀ c, c ∈ cs ↔ c ∈ ds) : aimOf aim cs = aimOf aim ds := by
  have hd : ∀ c ∈ ds, RtV c := fun c hm => hc c ((h c).2 hm)
  obtain ⟨r1, w1, a1⟩ := aim_facts ha hc
  obtain ⟨r2, w2, a2⟩ := aim_facts ha hd
  exact wiP_anti r1 r2 (aimOf_least ha r2 (fun c hm => ⟨hc c hm, a2 c ((h c).1 hm)⟩) w2) (aimOf_least ha r1 (fun c hm => ⟨hd c hm, a1 c ((h c).2 hm)⟩) w1)
theorem nil_iff {cs ds : List V} (h : ∀ c, c ∈ cs ↔ c ∈ ds) : cs = [] ↔ ds = [] := by
  constructor
  · intro e
    subst e
    cases ds with
    | nil => rfl
    | cons d ds => exact absurd ((h d).2 (List.mem_cons_self ..)) (by simp)
  · intro e
    subst e
    cases cs with
    | nil => rfl
    | cons d ds => exact absurd ((h d).1 (List.mem_cons_self ..)) (by simp)
theorem next_same {l : List V} {aim : V} (hf : FInv l aim) {x : V} (hxl : x ∈ l) {cs ds : List V} (hc : ∀ c ∈ cs, RtV c) (h : ∀ c, c ∈ cs ↔ c ∈ ds) : nextL x cs l = nextL x ds l ∧ nextA aim cs = nextA aim ds := by
  have hd : ∀ c ∈ ds, RtV c := fun c hm => hc c ((h c).2 hm)
  have f1 := next_inv hf hxl hc
  have f2 := next_inv hf hxl hd
  unfold nextL nextA at *
  by_cases h0 : cs = []
  · rw [if_pos h0, if_pos h0, if_pos ((nil_iff h).1 h0), if_pos ((nil_iff h).1 h0)]
    exact ⟨rfl, rfl⟩
  · have h1 := mt (nil_iff h).2 h0
    rw [if_neg h0, if_neg h0] at f1
    rw [if_neg h1, if_neg h1] at f2
    rw [if_neg h0, if_neg h0, if_neg h1, if_neg h1]
    refine ⟨strict_ext f1.2.1 f2.2.1 fun w => ?_, aimOf_same hf.2.2.2 hc h⟩
    rw [insAll_mem, insAll_mem]
    constructor
    · rintro (a | ⟨c, a, b⟩)
      · exact .inl a
      · exact .inr ⟨c, (h c).1 a, b⟩
    · rintro (a | ⟨c, a, b⟩)
      · exact .inl a
      · exact .inr ⟨c, (h c).2 a, b⟩
theorem next_keeps {x v : V} {cs l : List V} (h : v ∈ l) : v = x ∨ v ∈ nextL x cs l := by
  by_cases e : v = x
  · exact .inl e
  · right
    unfold nextL
    split
    · exact h
    · exact (insAll_mem _ _ _ _).2 (.inl ((unlike_mem _ _ _).2 ⟨h, e⟩))
theorem turns_l2 (l g : List V) (gl : g.length < 4611686018427387904) (n i g1 g2 : Int) (x v : V) (R : Bool) (hnext : Ev (fun k => ropewaylaw16_FrontTurns.l1 k l n (wrap64 (i + 1)) x.f0 x.f1 g g1 g2) R) (d : Nat) : ∀ (j : Nat) (b : Bool), g.length - j = d → j ≤ g.length → (b = true ∨ v ∈ g.drop j) →
    Ev (fun k => ropewaylaw16_FrontTurns.l2 k b l n i g (g.length : Int) (j : Int) x.f0 x.f1 g g1 g2 v.f0 v.f1) R := by
  induction d with
  | zero =>
    intro j b hd hj hb
    rw [List.drop_eq_nil_of_le (by omega)] at hb
    refine Ev.succ ?_
    simp only [ropewaylaw16_FrontTurns.l2]
    exact Ev.ite_neg (by omega) (Ev.ite_pos (hb.elim id fun h => by simp at h) hnext)
  | succ d ih =>
    intro j b hd hj hb
    have hlt : j < g.length := by omega
    have e : rd_T24 g j = g[j] := by show g.getD j _ = _; rw [List.getD_eq_getElem?_getD, List.getElem?_eq_getElem hlt]; rfl
    rw [List.drop_eq_getElem_cons hlt] at hb
    refine Ev.succ ?_
    simp only [ropewaylaw16_FrontTurns.l2]
    rw [e, wrap_nat (by omega)]
    generalize g[j] = y at hb
    refine Ev.ite_pos (by omega) (Ev.ite_pos (by omega) (Ev.ite_pos (by omega) ?_))
    refine Ev.ite (fun _ => ih (j + 1) true (by omega) (by omega) (.inl rfl)) fun h => ih (j + 1) _ (by omega) (by omega) ?_
    rcases hb with hb | hb
    · exact absurd hb h
    · rcases List.mem_cons.1 hb with rfl | hb
      · exact .inl (by simp)
      · exact .inr hb
theorem turns_l1 (l g : List V) (ll : l.length < 4611686018427387904) (gl : g.length < 4611686018427387904) (g1 g2 : Int) (x : V) (hk : ∀ v ∈ l, v = x ∨ v ∈ g) (d : Nat) : ∀ (i : Nat), l.length - i = d → i ≤ l.length →
    Ev (fun k => ropewaylaw16_FrontTurns.l1 k l (l.length : Int) (i : Int) x.f0 x.f1 g g1 g2) true := by
  induction d with
  | zero =>
    intro i hd hi
    refine Ev.const fun k => ?_
    simp only [ropewaylaw16_FrontTurns.l1]
    rw [if_neg (by omega)]
  | succ d ih =>
    intro i hd hi
    have hlt : i < l.length := by omega
    have e : rd_T24 l i = l[i] := by show l.getD i _ = _; rw [List.getD_eq_getElem?_getD, List.getElem?_eq_getElem hlt]; rfl
    have hv := hk l[i] (List.getElem_mem hlt)
    refine Ev.succ ?_
    simp only [ropewaylaw16_FrontTurns.l1]
    rw [e]
    generalize l[i] = v at hv
    refine Ev.ite_pos (by omega) (Ev.ite_pos (by omega) (Ev.ite_pos (by omega) ?_))
    refine turns_l2 l g gl (l.length : Int) (i : Int) g1 g2 x v true (by rw [wrap_nat (by omega)]; exact ih (i + 1) (by omega) (by omega)) _ 0 _ rfl (by omega) ?_
    rcases hv with hv | hv
    · exact .inl (by rw [hv]; simp)
    · exact .inr hv
theorem turns_l0 (cs : List V) (hn : cs.length ≤ 20) (hc : ∀ c ∈ cs, RtV c) (l : List V) (aim : V) (hf : FInv l aim) : ∀ (n : Nat) (b : List V), n ≤ cs.length → b.length + 2 * n ≤ 40 → (∀ c, (c ∈ b ∨ c ∈ cs.take n) ↔ c ∈ cs) →
    Ev (fun k => ropewaylaw16_FrontTurns.l0 k cs b ((n : Int) - 1) l aim.f0 aim.f1) true := by
  intro n
  induction n with
  | zero =>
    intro b _ hb hm
    refine Ev.succ ?_
    simp only [ropewaylaw16_FrontTurns.l0]
    refine Ev.ite_neg (by omega) ?_
    have hm' : ∀ c, c ∈ cs ↔ c ∈ b := fun c => by rw [← hm c]; simp
    have hcb : ∀ c ∈ b, RtV c := fun c h => hc c ((hm' c).2 h)
    have hr : ∀ v ∈ l, RtV v := fun v hv => (hf.2.2.1 v hv).1
    have hll := right_len hf.2.1 hr
    obtain ⟨x, l', rfl⟩ := List.exists_cons_of_ne_nil hf.1
    have hxl : x ∈ x :: l' := List.mem_cons_self ..
    obtain ⟨e1, e2⟩ := next_same hf hxl hc hm'
    have hf' := next_inv hf hxl hc
    have hk : ∀ v ∈ x :: l', v = x ∨ v ∈ nextL x cs (x :: l') := fun v h => next_keeps h
    refine Ev.bind_all (least_some _ _) (Ev.bind (fstep_ev hf hxl (by omega) hc) (Ev.bind (fstep_ev hf hxl (by omega) hcb) ?_))
    rw [← e1, ← e2]
    generalize nextL x cs (x :: l') = g at hf' hk ⊢
    have hgl := right_len hf'.2.1 (fun v hv => (hf'.2.2.1 v hv).1)
    refine Ev.bind (vsame_ev g (by omega)) (Ev.ite_pos rfl ?_)
    refine Ev.succ ?_
    simp only [ropewaylaw16_FrontTurns.j2]
    exact Ev.ite_neg (by simp) (turns_l1 (x :: l') g (by omega) (by omega) _ _ x hk _ 0 rfl (by omega))
  | succ n ih =>
    intro b hi hb hm
    have hlt : n < cs.length := by omega
    have e : rd_T24 cs n = cs[n] := by show cs.getD n _ = _; rw [List.getD_eq_getElem?_getD, List.getElem?_eq_getElem hlt]; rfl
    have ei : ((n + 1 : Nat) : Int) - 1 = (n : Int) := by omega
    refine Ev.succ ?_
    simp only [ropewaylaw16_FrontTurns.l0]
    rw [ei, e, wrap_in (x := (n : Int) - 1) (by omega) (by omega)]
    refine Ev.ite_pos (by omega) (Ev.ite_pos (by omega) (Ev.ite_pos (by omega) ?_))
    simp only [Option.bind_some]
    refine Ev.ite_pos (by simp; omega) ?_
    refine ih (b ++ [cs[n], cs[n]]) (by omega) (by simp; omega) fun c => ?_
    rw [← hm c, List.take_add_one, List.getElem?_eq_getElem hlt]
    simp only [List.mem_append, List.mem_cons, List.not_mem_nil, or_false, Option.toList_some]
    constructor
    · rintro ((h | h | h) | h)
      · exact .inl h
      · exact .inr (.inr h)
      · exact .inr (.inr h)
      · exact .inr (.inl h)
    · rintro (h | h | h)
      · exact .inl (.inl h)
      · exact .inr h
      · exact .inl (.inr (.inl h))
theorem FrontTurns : ropewaylaw16_FrontTurns.Pure := by
  intro a0 a1 b0 b1 xs cs _ _ _ _ _ _
  have alive : Ev (fun k => ropewaylaw16_frontAlive.f k) true := Ev.closed ropewaylaw16_frontAlive.mono 60 (by decide +kernel)
  have jt : Ev (fun k => ropewaylaw16_FrontTurns.j0 k xs cs true a0 a1 b0 b1) true := Ev.const fun k => by simp only [ropewaylaw16_FrontTurns.j0]; rfl
  have hall : Ev (fun k => ropewaylaw16_FrontTurns.f k a0 a1 b0 b1 xs cs) true := by
    unfold ropewaylaw16_FrontTurns.f
    refine Ev.bind alive (Ev.ite_pos rfl ?_)
    refine Ev.ite (fun _ => jt) fun hn => Ev.ite (fun _ => jt) fun hn2 => ?_
    refine Ev.bind (right_ev _ (by simp)) (Ev.ite (fun hr => ?_) fun _ => jt)
    refine Ev.bind (right_ev _ (by omega)) (Ev.ite (fun hrx => ?_) fun _ => jt)
    refine Ev.bind (right_ev _ (by omega)) ?_
    by_cases hrc : cs.all rtB = true
    rotate_left
    · rw [Bool.eq_false_iff.2 hrc]; exact jt
    rw [hrc]
    refine Ev.succ ?_
    simp only [ropewaylaw16_FrontTurns.j0]
    refine Ev.ite_neg (by simp) ?_
    simp only [List.all_cons, List.all_nil, Bool.and_true, Bool.and_eq_true] at hr
    have ha := (rtB_iff _).1 hr.1
    have hb := (rtB_iff _).1 hr.2
    have hj : Ev (fun k => front_New.f k a0 a1 b0 b1) ([(⟨a0, a1⟩ : V)], (joinV ⟨a0, a1⟩ ⟨b0, b1⟩).f0, (joinV ⟨a0, a1⟩ ⟨b0, b1⟩).f1) := by
      unfold front_New.f
      exact Ev.bind (change_Join_ev _ (by simp)) (Ev.all fun k => rfl)
    have hxr : ∀ c ∈ xs, RtV c := fun c h => (rtB_iff c).1 (List.all_eq_true.1 hrx c h)
    have hcr : ∀ c ∈ cs, RtV c := fun c h => (rtB_iff c).1 (List.all_eq_true.1 hrc c h)
    have hf : FInv [(⟨a0, a1⟩ : V)] (joinV ⟨a0, a1⟩ ⟨b0, b1⟩) := ⟨by simp, by simp [vstrict], fun v hv => by simp at hv; subst hv; exact ⟨ha, wi_left ha hb⟩, joinV_right ha hb⟩
    have hm : (⟨a0, a1⟩ : V) ∈ [(⟨a0, a1⟩ : V)] := List.mem_cons_self ..
    refine Ev.bind hj (Ev.bind (fstep_ev hf hm (show xs.length ≤ 4096 by omega) hxr) ?_)
    rw [wrap_in (x := (cs.length : Int) - 1) (by omega) (by omega)]
    refine turns_l0 cs (by omega) hcr _ _ (next_inv hf hm hxr) cs.length [] (by omega) (by simp; omega) fun c => ?_
    rw [List.take_of_length_le (Nat.le_refl _)]
    simp
  exact hall.rounds

end Go.Proofs.Ytjfmhahlmnnacaa.Pure
