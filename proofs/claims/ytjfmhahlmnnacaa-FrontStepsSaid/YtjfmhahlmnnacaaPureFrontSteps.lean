/- The pure statement of the law FrontSteps: whichever steps are made: the front, the aim, the least one, and what is wanted. -/
import Derived.Test.YtjfmhahlmnnacaaPFrontStepsx
import Derived.Test.YtjfmhahlmnnacaaSFrontStepsXPure
import Derived.Test.YtjfmhahlmnnacaaSFrontStepsXOpen
namespace Go.Proofs.Ytjfmhahlmnnacaa.Pure
open Go.RowKit Go.Proofs.Ytjfmhahlmnnacaa.PFrontSteps Go.Proofs.YtjfmhahlmnnacaaW.PrintWords Go.Proofs.YtjfmhahlmnnacaaW.PrintLast Go.Proofs.YtjfmhahlmnnacaaW.PrintMore Go.Proofs.YtjfmhahlmnnacaaX
set_option linter.unusedVariables false
set_option linter.unusedSimpArgs false
abbrev V := S24
abbrev A := S37
/-! sets of nodes: two numbers below 64 -/
def pc (a : Int) : Int := (bits_OnesCount.f (IntKind.u64.wrap a)).getD 0
theorem set1 (p : Int → Prop) [DecidablePred p] (h : ∀ a : Fin 64, p (a.val : Int)) {x : Int} (h0 : 0 ≤ x) (h1 : x < 64) : p x := by
  have := h ⟨x.toNat, by omega⟩
  simpa [Int.toNat_of_nonneg h0] using this
theorem set2 (p : Int → Int → Prop) (h : ∀ a b : Fin 64, p (a.val : Int) (b.val : Int)) {x y : Int} (h0 : 0 ≤ x) (h1 : x < 64) (h2 : 0 ≤ y) (h3 : y < 64) : p x y := by
  have := h ⟨x.toNat, by omega⟩ ⟨y.toNat, by omega⟩
  simpa [Int.toNat_of_nonneg h0, Int.toNat_of_nonneg h2] using this
theorem pc_some {x : Int} (h0 : 0 ≤ x) (h1 : x < 64) : bits_OnesCount.f (IntKind.u64.wrap x) = some (pc x) ∧ 0 ≤ pc x ∧ pc x ≤ 6 :=
  set1 (fun x => bits_OnesCount.f (IntKind.u64.wrap x) = some (pc x) ∧ 0 ≤ pc x ∧ pc x ≤ 6) (by decide +kernel) h0 h1
theorem size_eq {a d : Int} (a0 : 0 ≤ a) (a1 : a < 64) (d0 : 0 ≤ d) (d1 : d < 64) : change_Size.f a d = some (pc a + pc d) := by
  obtain ⟨ea, la, ua⟩ := pc_some a0 a1
  obtain ⟨ed, ld, ud⟩ := pc_some d0 d1
  unfold change_Size.f
  rw [ea, ed]
  simp only [Option.bind_some]
  rw [wrap_in (by omega) (by omega)]
theorem name_eq {a d : Int} (a0 : 0 ≤ a) (a1 : a < 64) (d0 : 0 ≤ d) (d1 : d < 64) : change_Name.f a d = some (a * 64 + d) := by
  unfold change_Name.f
  rw [wrap_in (x := a * 64) (by omega) (by omega), wrap_in (by omega) (by omega)]

/-! change.Join, Minus: or, and-not of two numbers below 64 -/
def oB (x y : Int) : Int := Go.bits .or .i64 x y
def aB (x y : Int) : Int := Go.bits .andNot .i64 x y
def In64 (x : Int) : Prop := 0 ≤ x ∧ x < 64
theorem pairs {x y : Int} (hx : In64 x) (hy : In64 y) : (0 ≤ oB x y ∧ oB x y < 64) ∧ (0 ≤ aB x y ∧ aB x y < 64) ∧ oB x y = ((x.toNat ||| y.toNat : Nat) : Int) ∧ (aB x y = 0 ↔ oB x y = y) ∧ oB (aB x y) y = oB x y ∧ aB (aB x y) y = aB x y ∧ pc (oB x y) = pc y + pc (aB x y) :=
  set2 (fun x y => (0 ≤ oB x y ∧ oB x y < 64) ∧ (0 ≤ aB x y ∧ aB x y < 64) ∧ oB x y = ((x.toNat ||| y.toNat : Nat) : Int) ∧ (aB x y = 0 ↔ oB x y = y) ∧ oB (aB x y) y = oB x y ∧ aB (aB x y) y = aB x y ∧ pc (oB x y) = pc y + pc (aB x y)) (by decide +kernel) hx.1 hx.2 hy.1 hy.2
theorem oB_in {x y : Int} (hx : In64 x) (hy : In64 y) : In64 (oB x y) := (pairs hx hy).1
theorem aB_in {x y : Int} (hx : In64 x) (hy : In64 y) : In64 (aB x y) := (pairs hx hy).2.1
theorem oB_nat {x y : Int} (hx : In64 x) (hy : In64 y) : oB x y = ((x.toNat ||| y.toNat : Nat) : Int) := (pairs hx hy).2.2.1
theorem in0 : In64 0 := ⟨by decide, by decide⟩
theorem oB_zero {x : Int} (hx : In64 x) : oB 0 x = x := by
  rw [oB_nat in0 hx]; have := hx.1; simp; omega
theorem oB_comm {x y : Int} (hx : In64 x) (hy : In64 y) : oB x y = oB y x := by
  rw [oB_nat hx hy, oB_nat hy hx, Nat.or_comm]
theorem oB_self {x : Int} (hx : In64 x) : oB x x = x := by
  rw [oB_nat hx hx, Nat.or_self]; have := hx.1; simp; omega
theorem oB_assoc {x y z : Int} (hx : In64 x) (hy : In64 y) (hz : In64 z) : oB (oB x y) z = oB x (oB y z) := by
  rw [oB_nat (oB_in hx hy) hz, oB_nat hx (oB_in hy hz), oB_nat hx hy, oB_nat hy hz, Int.toNat_natCast, Int.toNat_natCast, Nat.or_assoc]

/-! the order of views -/
def kS (v : V) : Int := (change_Size.f v.f0 v.f1).getD 0
def kN (v : V) : Int := wrap64 (wrap64 (v.f0 * 64) + v.f1)
theorem oc64_some (a : Int) : ∃ r, bits_OnesCount64.f a = some r := ⟨_, rfl⟩
theorem oc_some (a : Int) : ∃ r, bits_OnesCount.f a = some r := by
  obtain ⟨r, h⟩ := oc64_some a
  exact ⟨r, by unfold bits_OnesCount.f; rw [h]; rfl⟩
theorem kS_some (v : V) : change_Size.f v.f0 v.f1 = some (kS v) := by
  obtain ⟨r, h⟩ := oc_some (IntKind.u64.wrap v.f0)
  obtain ⟨q, k⟩ := oc_some (IntKind.u64.wrap v.f1)
  have e : change_Size.f v.f0 v.f1 = some (wrap64 (r + q)) := by
    unfold change_Size.f
    rw [h, k]; rfl
  unfold kS
  rw [e]; rfl
def vlt (a b : V) : Bool := decide (kS a < kS b ∨ kS a = kS b ∧ kN a < kN b)
theorem vlt_iff (a b : V) : vlt a b = true ↔ (kS a < kS b ∨ kS a = kS b ∧ kN a < kN b) := decide_eq_true_iff
theorem compare_int (a b : Int) : cmp_Compare_int.f a b = some (if a < b then -1 else if a > b then 1 else 0) := by
  unfold cmp_Compare_int.f cmp_isNaN_int.f
  (repeat' split) <;> simp_all
theorem or_int (a b : Int) : Ev (fun k => cmp_Or_int.f k [a, b]) (if a = 0 then b else a) := by
  have r0 : rd [a, b] 0 = a := rfl
  have r1 : rd [a, b] 1 = b := rfl
  have v0 : wrap64 (0 + 1) = 1 := by unfold wrap64; omega
  have v1 : wrap64 (1 + 1) = 2 := by unfold wrap64; omega
  have e2 : b = 0 → Ev (fun k => cmp_Or_int.l0 k 0 [a, b] 2 2) b := fun h => Ev.const fun k => by
    simp only [cmp_Or_int.l0]
    rw [if_neg (by decide), h]
  have e1 : Ev (fun k => cmp_Or_int.l0 k 0 [a, b] 2 1) b := by
    refine Ev.succ ?_
    simp only [cmp_Or_int.l0]
    rw [r1, v1]
    refine Ev.ite_pos (by decide) (Ev.ite_pos (by decide) (Ev.ite_pos (by simp) ?_))
    refine Ev.ite (fun h => ?_) (fun h => Ev.all fun k => rfl)
    exact e2 h
  show Ev (fun k => cmp_Or_int.l0 k 0 [a, b] 2 0) _
  refine Ev.succ ?_
  simp only [cmp_Or_int.l0]
  rw [r0, v0]
  refine Ev.ite_pos (by decide) (Ev.ite_pos (by decide) (Ev.ite_pos (by simp) ?_))
  by_cases h : a = 0
  · rw [if_pos h]; exact Ev.ite_pos h e1
  · rw [if_neg h]; exact Ev.ite_neg h (Ev.all fun k => rfl)
theorem name_some (v : V) : change_Name.f v.f0 v.f1 = some (kN v) := rfl
theorem view_compare_ev (a b : V) : ∃ c : Int, Ev (fun k => view_compare.f k a.f0 a.f1 b.f0 b.f1) c ∧ (c < 0 ↔ vlt a b = true) := by
  refine ⟨if (if kS a < kS b then -1 else if kS a > kS b then 1 else 0 : Int) = 0 then (if kN a < kN b then -1 else if kN a > kN b then 1 else 0) else (if kS a < kS b then -1 else if kS a > kS b then 1 else 0), ?_, ?_⟩
  · unfold view_compare.f
    refine Ev.bind_all (kS_some a) (Ev.bind_all (kS_some b) (Ev.bind_all (compare_int _ _) ?_))
    refine Ev.bind_all (name_some a) (Ev.bind_all (name_some b) (Ev.bind_all (compare_int _ _) ?_))
    exact Ev.bind (or_int _ _) (Ev.all fun k => rfl)
  · rw [vlt_iff]
    (repeat' split) <;> omega
theorem view_Less_ev (a b : V) : Ev (fun k => view_Less.f k a.f0 a.f1 b.f0 b.f1) (vlt a b) := by
  obtain ⟨c, hc, h⟩ := view_compare_ev a b
  unfold view_Less.f
  refine Ev.bind hc (Ev.all fun k => ?_)
  congr 1
  rw [Bool.eq_iff_iff, decide_eq_true_iff, h]
def RtV (v : V) : Prop := 0 ≤ v.f0 ∧ v.f0 < 64 ∧ 0 ≤ v.f1 ∧ v.f1 < 64
theorem kS_right {v : V} (h : RtV v) : kS v = pc v.f0 + pc v.f1 := by
  have := size_eq h.1 h.2.1 h.2.2.1 h.2.2.2
  rw [kS_some] at this
  exact Option.some.inj this
theorem kN_right {v : V} (h : RtV v) : kN v = v.f0 * 64 + v.f1 := by
  have := name_eq h.1 h.2.1 h.2.2.1 h.2.2.2
  rw [name_some] at this
  exact Option.some.inj this
theorem vlt_total {a b : V} (ha : RtV a) (hb : RtV b) (h : vlt a b = false) (k : a ≠ b) : vlt b a = true := by
  rw [vlt_iff]
  have h' := mt (vlt_iff a b).2 (by simp [h])
  rw [kN_right ha, kN_right hb] at *
  by_cases e : a.f0 * 64 + a.f1 = b.f0 * 64 + b.f1
  · exfalso
    apply k
    obtain ⟨a0, a1, a2, a3⟩ := ha
    obtain ⟨b0, b1, b2, b3⟩ := hb
    cases a; cases b
    simp only at *
    congr 1 <;> omega
  · omega

/-! change.Join -/
def joinL (m : Int × Int) (l : List S24) : Int × Int := l.foldl (fun m v => (oB m.1 v.f0, oB m.2 v.f1)) m
theorem change_Join_l0 (xs : List S24) (hn : xs.length < 4611686018427387904) (d : Nat) : ∀ (i : Nat) (m : Int × Int), xs.length - i = d → i ≤ xs.length →
    Ev (fun k => change_Join.l0 k xs (xs.length : Int) (i : Int) m.1 m.2) (joinL m (xs.drop i)) := by
  induction d with
  | zero =>
    intro i m hd hi
    refine Ev.const fun k => ?_
    simp only [change_Join.l0]
    rw [if_neg (by omega), List.drop_eq_nil_of_le (by omega)]
    rfl
  | succ d ih =>
    intro i m hd hi
    have hlt : i < xs.length := by omega
    rw [drop_cons hlt z24]
    refine Ev.step' (ih (i + 1) (oB m.1 (rd_T24 xs i).f0, oB m.2 (rd_T24 xs i).f1) (by omega) (by omega)) fun k => ?_
    simp only [change_Join.l0]
    rw [if_pos (by omega), if_pos (by omega), if_pos (by omega), wrap_nat (by omega)]
    rfl
theorem change_Join_ev (xs : List S24) (hn : xs.length < 4611686018427387904) : Ev (fun k => change_Join.f k xs) (joinL (0, 0) xs) := change_Join_l0 xs hn xs.length 0 (0, 0) (by omega) (by omega)

/-! front.Step: what it makes -/
def insV (v : V) : List V → List V
  | [] => [v]
  | x :: l => if (x.f0 == v.f0 && (x.f1 == v.f1)) = true then x :: l else if vlt v x = true then v :: x :: l else x :: insV v l
def joinV (a c : V) : V := ⟨(joinL (0, 0) [a, c]).1, (joinL (0, 0) [a, c]).2⟩
theorem insV_len (v : V) : ∀ l : List V, (insV v l).length ≤ l.length + 1 := by
  intro l
  induction l with
  | nil => simp [insV]
  | cons x l ih => simp only [insV]; split <;> (try split) <;> simp <;> omega
theorem step_l2 (cs : List V) (i : Nat) (at_ : V) (a1 a2 : Int) (v : V) (out : List V) (ho : out.length < 8796093022207) (R : List V × Int × Int) (d : Nat) : ∀ (j : Nat), out.length - j = d → j ≤ out.length →
    Ev (fun k => front_Step.l1 k cs (cs.length : Int) (wrap64 ((i : Int) + 1)) at_.f0 at_.f1 (out.take j ++ insV v (out.drop j)) a1 a2) R →
    Ev (fun k => front_Step.l2 k cs (cs.length : Int) (i : Int) out (out.length : Int) (j : Int) at_.f0 at_.f1 out a1 a2 v.f0 v.f1) R := by
  induction d with
  | zero =>
    intro j hd hj h
    rw [List.drop_eq_nil_of_le (by omega), List.take_of_length_le (by omega)] at h
    refine Ev.succ ?_
    simp only [front_Step.l2]
    exact Ev.ite_neg (by omega) (Ev.ite_pos (by omega) h)
  | succ d ih =>
    intro j hd hj h
    have hlt : j < out.length := by omega
    have e : rd_T24 out j = out.getD j z24 := rfl
    have hg : out.getD j z24 = out[j] := by rw [List.getD_eq_getElem?_getD, List.getElem?_eq_getElem hlt]; rfl
    have hd1 : out.drop j = out[j] :: out.drop (j + 1) := List.drop_eq_getElem_cons hlt
    have htk : out.take (j + 1) = out.take j ++ [out[j]] := by rw [List.take_add_one, List.getElem?_eq_getElem hlt]; rfl
    refine Ev.succ ?_
    simp only [front_Step.l2]
    rw [e, hg]
    refine Ev.ite_pos (by omega) (Ev.ite_pos (by omega) (Ev.ite_pos (by omega) ?_))
    by_cases h1 : (out[j].f0 == v.f0 && (out[j].f1 == v.f1)) = true
    · rw [hd1] at h
      simp only [insV] at h
      rw [if_pos h1, ← hd1, List.take_append_drop] at h
      exact Ev.ite_pos h1 h
    · refine Ev.ite_neg h1 (Ev.bind (view_Less_ev v out[j]) ?_)
      by_cases h2 : vlt v out[j] = true
      · refine Ev.ite_pos h2 ?_
        rw [hd1] at h
        simp only [insV] at h
        rw [if_neg h1, if_pos h2, ← hd1] at h
        refine Ev.bind_all (show api_View_27.f out (j : Int) [v] = some (out.take j ++ [v] ++ out.drop j) from ?_) (by simpa using h)
        unfold api_View_27.f
        rw [if_pos ⟨by omega, by omega, rfl, by omega⟩, Int.toNat_natCast]
      · refine Ev.ite_neg h2 ?_
        rw [wrap_nat (by omega)]
        refine ih (j + 1) (by omega) (by omega) ?_
        rw [hd1] at h
        simp only [insV] at h
        rw [if_neg h1, if_neg h2] at h
        rw [htk, List.append_assoc]
        exact h
def insAll (at_ : V) (cs : List V) (out : List V) : List V := cs.foldl (fun o c => insV (joinV at_ c) o) out
def unlike (at_ : V) (l : List V) : List V := l.filter fun v => (!(v.f0 == at_.f0) || (!(v.f1 == at_.f1)))

/-! front.Step: the views stay in order -/
def vstrict (l : List V) : Prop := l.Pairwise fun a b => vlt a b = true
theorem v_eq {x v : V} : (x.f0 == v.f0 && (x.f1 == v.f1)) = true ↔ x = v := by
  rw [Bool.and_eq_true, beq_iff_eq, beq_iff_eq]
  constructor
  · rintro ⟨h, k⟩
    cases x; cases v
    simp only at h k
    subst h; subst k; rfl
  · rintro rfl; exact ⟨rfl, rfl⟩
theorem v_ne {x v : V} : (!(x.f0 == v.f0) || (!(x.f1 == v.f1))) = true ↔ x ≠ v := by
  rw [← Bool.not_and, Bool.not_eq_true', ← Bool.not_eq_true]
  exact not_congr v_eq
theorem vl_trans {a b c : V} (h : vlt a b = true) (k : vlt b c = true) : vlt a c = true := by
  rw [vlt_iff] at h k ⊢; omega
theorem vl_irrefl (a : V) : vlt a a = false := by
  rw [Bool.eq_false_iff]; intro e; have := (vlt_iff a a).1 e; omega
theorem insV_mem (v w : V) (l : List V) : w ∈ insV v l ↔ (w = v ∨ w ∈ l) := by
  induction l with
  | nil => simp [insV]
  | cons x l ih =>
    simp only [insV]
    split
    · rename_i h
      have := v_eq.1 h
      subst this
      simp
    · split
      · simp
      · rw [List.mem_cons, ih, List.mem_cons]
        constructor
        · rintro (h | h | h)
          · exact .inr (.inl h)
          · exact .inl h
          · exact .inr (.inr h)
        · rintro (h | h | h)
          · exact .inr (.inl h)
          · exact .inl h
          · exact .inr (.inr h)
theorem insV_strict {v : V} (hv : RtV v) {l : List V} (hr : ∀ x ∈ l, RtV x) (h : vstrict l) : vstrict (insV v l) := by
  induction l with
  | nil => simp [insV, vstrict]
  | cons x l ih =>
    have hx := hr x (List.mem_cons_self ..)
    obtain ⟨p, q⟩ := List.pairwise_cons.1 h
    simp only [insV]
    split
    · exact h
    · rename_i hne
      split
      · rename_i hl
        refine List.pairwise_cons.2 ⟨fun w hw => ?_, h⟩
        rcases List.mem_cons.1 hw with rfl | hw
        · exact hl
        · exact vl_trans hl (p w hw)
      · rename_i hl
        refine List.pairwise_cons.2 ⟨fun w hw => ?_, ih (fun y hy => hr y (List.mem_cons_of_mem _ hy)) q⟩
        rcases (insV_mem v w l).1 hw with rfl | hw
        · exact vlt_total hv hx (Bool.eq_false_iff.2 hl) fun e => hne (v_eq.2 e.symm)
        · exact p w hw
theorem insAll_mem (at_ : V) (cs : List V) : ∀ (out : List V) (w : V), w ∈ insAll at_ cs out ↔ (w ∈ out ∨ ∃ c ∈ cs, w = joinV at_ c) := by
  induction cs with
  | nil => intro out w; simp [insAll]
  | cons c cs ih =>
    intro out w
    show w ∈ insAll at_ cs (insV (joinV at_ c) out) ↔ _
    rw [ih, insV_mem]
    constructor
    · rintro ((h | h) | ⟨x, hx, e⟩)
      · exact .inr ⟨c, List.mem_cons_self .., h⟩
      · exact .inl h
      · exact .inr ⟨x, List.mem_cons_of_mem _ hx, e⟩
    · rintro (h | ⟨x, hx, e⟩)
      · exact .inl (.inr h)
      · rcases List.mem_cons.1 hx with rfl | hx
        · exact .inl (.inl e)
        · exact .inr ⟨x, hx, e⟩
theorem joinV_right {a c : V} (ha : RtV a) (hc : RtV c) : RtV (joinV a c) := by
  have h0 := oB_in (oB_in in0 ⟨ha.1, ha.2.1⟩) ⟨hc.1, hc.2.1⟩
  have h1 := oB_in (oB_in in0 ⟨ha.2.2.1, ha.2.2.2⟩) ⟨hc.2.2.1, hc.2.2.2⟩
  exact ⟨h0.1, h0.2, h1.1, h1.2⟩
theorem insAll_right {at_ : V} (ha : RtV at_) {cs : List V} (hc : ∀ c ∈ cs, RtV c) {out : List V} (ho : ∀ x ∈ out, RtV x) : ∀ x ∈ insAll at_ cs out, RtV x := fun x hx => by
  rcases (insAll_mem at_ cs out x).1 hx with h | ⟨c, hc', rfl⟩
  · exact ho x h
  · exact joinV_right ha (hc c hc')
theorem insAll_strict {at_ : V} (ha : RtV at_) : ∀ {cs : List V}, (∀ c ∈ cs, RtV c) → ∀ {out : List V}, (∀ x ∈ out, RtV x) → vstrict out → vstrict (insAll at_ cs out) := by
  intro cs
  induction cs with
  | nil => intro _ out _ h; exact h
  | cons c cs ih =>
    intro hc out ho h
    have hj := joinV_right ha (hc c (List.mem_cons_self ..))
    refine ih (fun x hx => hc x (List.mem_cons_of_mem _ hx)) (out := insV (joinV at_ c) out) (fun x hx => ?_) (insV_strict hj ho h)
    rcases (insV_mem _ _ _).1 hx with rfl | hx
    · exact hj
    · exact ho x hx
theorem unlike_mem (at_ w : V) (l : List V) : w ∈ unlike at_ l ↔ (w ∈ l ∧ w ≠ at_) := by
  unfold unlike
  rw [List.mem_filter]
  exact and_congr Iff.rfl v_ne
theorem unlike_strict {at_ : V} {l : List V} (h : vstrict l) : vstrict (unlike at_ l) := h.sublist List.filter_sublist
/-- two lists in order with the same members are one -/
theorem strict_ext {l m : List V} (hl : vstrict l) (hm : vstrict m) (h : ∀ w, w ∈ l ↔ w ∈ m) : l = m := by
  induction l generalizing m with
  | nil =>
    cases m with
    | nil => rfl
    | cons y m => exact absurd ((h y).2 (List.mem_cons_self ..)) (by simp)
  | cons x l ih =>
    cases m with
    | nil => exact absurd ((h x).1 (List.mem_cons_self ..)) (by simp)
    | cons y m =>
      obtain ⟨p, q⟩ := List.pairwise_cons.1 hl
      obtain ⟨p', q'⟩ := List.pairwise_cons.1 hm
      have asym : ∀ {a b : V}, vlt a b = true → vlt b a = true → False := fun h1 h2 => by
        have := vl_trans h1 h2
        rw [vl_irrefl] at this
        cases this
      have hxy : x = y := by
        rcases List.mem_cons.1 ((h x).1 (List.mem_cons_self ..)) with e | hx
        · exact e
        · rcases List.mem_cons.1 ((h y).2 (List.mem_cons_self ..)) with e | hy
          · exact e.symm
          · exact (asym (p y hy) (p' x hx)).elim
      subst hxy
      rw [ih q q' fun w => ?_]
      constructor
      · intro hw
        rcases List.mem_cons.1 ((h w).1 (List.mem_cons_of_mem _ hw)) with e | hw'
        · subst e; exact (asym (p w hw) (p w hw)).elim
        · exact hw'
      · intro hw
        rcases List.mem_cons.1 ((h w).2 (List.mem_cons_of_mem _ hw)) with e | hw'
        · subst e; exact (asym (p' w hw) (p' w hw)).elim
        · exact hw'

/-! front.Step, whole -/
theorem nodup_le {l : List V} (h : l.Nodup) : ∀ {m : List V}, (∀ v ∈ l, v ∈ m) → l.length ≤ m.length := by
  induction l with
  | nil => intro m _; exact Nat.zero_le _
  | cons v l ih =>
    intro m k
    obtain ⟨p, q, rfl⟩ := List.append_of_mem (k v (List.mem_cons_self ..))
    have h' := List.nodup_cons.1 h
    have := ih h'.2 (m := p ++ q) fun w hw => by
      have hw2 := k w (List.mem_cons_of_mem _ hw)
      rcases List.mem_append.1 hw2 with h0 | h0
      · exact List.mem_append_left _ h0
      · rcases List.mem_cons.1 h0 with rfl | h0
        · exact absurd hw h'.1
        · exact List.mem_append_right _ h0
    simp at this ⊢
    omega
theorem strict_nodup {l : List V} (h : vstrict l) : l.Nodup := h.imp fun {a b} hab e => by
  subst e
  rw [vl_irrefl] at hab
  cases hab
theorem right_len {l : List V} (h : vstrict l) (hr : ∀ v ∈ l, RtV v) : l.length ≤ 4096 := by
  have := nodup_le (strict_nodup h) (m := (List.range 4096).map fun n => (⟨((n / 64 : Nat) : Int), ((n % 64 : Nat) : Int)⟩ : V)) fun v hv => by
    obtain ⟨a, b, c, d⟩ := hr v hv
    refine List.mem_map.2 ⟨v.f0.toNat * 64 + v.f1.toNat, List.mem_range.2 (by omega), ?_⟩
    have e1 : (v.f0.toNat * 64 + v.f1.toNat) / 64 = v.f0.toNat := by omega
    have e2 : (v.f0.toNat * 64 + v.f1.toNat) % 64 = v.f1.toNat := by omega
    rw [e1, e2, Int.toNat_of_nonneg a, Int.toNat_of_nonneg c]
  rw [List.length_map, List.length_range] at this
  exact this
theorem step_l1 (cs : List V) (hc : cs.length < 4611686018427387904) (at_ : V) (ha : RtV at_) (hcr : ∀ c ∈ cs, RtV c) (a1 a2 : Int) (d : Nat) : ∀ (i : Nat) (out : List V), vstrict out → (∀ x ∈ out, RtV x) → cs.length - i = d → i ≤ cs.length →
    Ev (fun k => front_Step.l1 k cs (cs.length : Int) (i : Int) at_.f0 at_.f1 out a1 a2) (insAll at_ (cs.drop i) out, a1, a2) := by
  induction d with
  | zero =>
    intro i out hs ho hd hi
    refine Ev.const fun k => ?_
    simp only [front_Step.l1]
    rw [if_neg (by omega), List.drop_eq_nil_of_le (by omega)]
    rfl
  | succ d ih =>
    intro i out hs ho hd hi
    have hlt : i < cs.length := by omega
    have e : rd_T24 cs i = cs.getD i z24 := rfl
    rw [drop_cons hlt z24]
    refine Ev.succ ?_
    simp only [front_Step.l1]
    rw [e]
    have hcm : RtV (cs.getD i z24) := hcr _ (by rw [List.getD_eq_getElem?_getD, List.getElem?_eq_getElem hlt]; exact List.getElem_mem hlt)
    generalize hx : cs.getD i z24 = c at hcm
    have hj := joinV_right ha hcm
    have hlen := right_len hs ho
    refine Ev.ite_pos (by omega) (Ev.ite_pos (by omega) (Ev.ite_pos (by omega) ?_))
    refine Ev.bind (change_Join_ev [at_, c] (by simp)) ?_
    have hl := insV_len (joinV at_ c) out
    refine step_l2 cs i at_ a1 a2 (joinV at_ c) out (by omega) _ out.length 0 (by omega) (by omega) ?_
    rw [List.take_zero, List.nil_append, List.drop_zero, wrap_nat (by omega)]
    exact ih (i + 1) (insV (joinV at_ c) out) (insV_strict hj ho hs) (fun x hx => ((insV_mem _ _ _).1 hx).elim (fun e => e ▸ hj) (ho x)) (by omega) (by omega)
theorem step_l0 (cs : List V) (hc : cs.length < 4611686018427387904) (l l' : List V) (at_ : V) (m1 m2 : Int) (x y : Int) (ha : RtV at_) (hcr : ∀ c ∈ cs, RtV c) (hl : l.length < 8796093022207) (hls : vstrict l) (hlr : ∀ x ∈ l, RtV x) (d : Nat) : ∀ (i : Nat) (out : List V), out = unlike at_ (l.take i) → l.length - i = d → i ≤ l.length →
    Ev (fun k => front_Step.l0 k cs l (l.length : Int) (i : Int) l' m1 m2 at_.f0 at_.f1 out x y) (insAll at_ cs (out ++ unlike at_ (l.drop i)), (joinL (0, 0) [⟨m1, m2⟩, ⟨(joinL (0, 0) cs).1, (joinL (0, 0) cs).2⟩])) := by
  induction d with
  | zero =>
    intro i out ho hd hi
    have hol : out.length ≤ i := by rw [ho]; exact Nat.le_trans (List.length_filter_le _ _) (by rw [List.length_take]; omega)
    refine Ev.succ ?_
    simp only [front_Step.l0]
    refine Ev.ite_neg (by omega) ?_
    refine Ev.bind (change_Join_ev cs hc) (Ev.bind (change_Join_ev _ (by simp)) ?_)
    rw [List.drop_eq_nil_of_le (by omega), show unlike at_ [] = [] from rfl, List.append_nil]
    rw [List.take_of_length_le (by omega)] at ho
    subst ho
    exact step_l1 cs hc at_ ha hcr _ _ cs.length 0 _ (unlike_strict hls) (fun x hx => hlr x ((unlike_mem _ _ _).1 hx).1) (by omega) (by omega)
  | succ d ih =>
    intro i out ho hd hi
    have hol : out.length ≤ i := by rw [ho]; exact Nat.le_trans (List.length_filter_le _ _) (by rw [List.length_take]; omega)
    have hlt : i < l.length := by omega
    have e : rd_T24 l i = l.getD i z24 := rfl
    rw [drop_cons hlt z24]
    refine Ev.succ ?_
    simp only [front_Step.l0]
    rw [e, wrap_nat (by omega)]
    have htk : l.take (i + 1) = l.take i ++ [l.getD i z24] := by rw [List.take_add_one, List.getElem?_eq_getElem hlt, List.getD_eq_getElem?_getD, List.getElem?_eq_getElem hlt]; rfl
    generalize hx : l.getD i z24 = v at htk
    refine Ev.ite_pos (by omega) (Ev.ite_pos (by omega) (Ev.ite_pos (by omega) ?_))
    by_cases h1 : (!(v.f0 == at_.f0) || (!(v.f1 == at_.f1))) = true
    · refine Ev.ite_pos h1 (Ev.ite_pos (by omega) ?_)
      have := ih (i + 1) (out ++ [v]) (by rw [htk, ho]; unfold unlike; rw [List.filter_append, List.filter_cons, if_pos h1]; rfl) (by omega) (by omega)
      rw [List.append_assoc] at this
      rw [show unlike at_ (v :: l.drop (i + 1)) = v :: unlike at_ (l.drop (i + 1)) by unfold unlike; rw [List.filter_cons, if_pos h1]]
      exact this
    · refine Ev.ite_neg h1 ?_
      rw [show unlike at_ (v :: l.drop (i + 1)) = unlike at_ (l.drop (i + 1)) by unfold unlike; rw [List.filter_cons, if_neg h1]]
      exact ih (i + 1) out (by rw [htk, ho]; unfold unlike; rw [List.filter_append, List.filter_cons, if_neg h1]; simp) (by omega) (by omega)
theorem step_ev (l cs : List V) (m1 m2 : Int) (at_ : V) (h0 : cs ≠ []) (hc : cs.length < 4611686018427387904) (ha : RtV at_) (hcr : ∀ c ∈ cs, RtV c) (hls : vstrict l) (hlr : ∀ x ∈ l, RtV x) : Ev (fun k => front_Step.f k l m1 m2 at_.f0 at_.f1 cs) (insAll at_ cs (unlike at_ l), (joinL (0, 0) [⟨m1, m2⟩, ⟨(joinL (0, 0) cs).1, (joinL (0, 0) cs).2⟩])) := by
  unfold front_Step.f
  have hp : 0 < cs.length := List.length_pos_iff.2 h0
  refine Ev.ite_neg (by omega) ?_
  have hlen := right_len hls hlr
  have := step_l0 cs hc l l at_ m1 m2 0 0 ha hcr (by omega) hls hlr l.length 0 [] (by simp [unlike]) (by omega) (by omega)
  rw [List.drop_zero, List.nil_append] at this
  exact this

/-! views within views -/
theorem pc_zero {x : Int} (h : In64 x) : pc x = 0 ↔ x = 0 := set1 (fun x => pc x = 0 ↔ x = 0) (by decide +kernel) h.1 h.2
theorem pc_nonneg {x : Int} (h : In64 x) : 0 ≤ pc x := (pc_some h.1 h.2).2.1
theorem aB_zero {x y : Int} (hx : In64 x) (hy : In64 y) : aB x y = 0 ↔ oB x y = y := (pairs hx hy).2.2.2.1
theorem pc_or {x y : Int} (hx : In64 x) (hy : In64 y) : pc (oB x y) = pc y + pc (aB x y) := (pairs hx hy).2.2.2.2.2.2
theorem sub_trans {x y z : Int} (hx : In64 x) (hy : In64 y) (hz : In64 z) (h : aB x y = 0) (k : aB y z = 0) : aB x z = 0 := by
  rw [aB_zero hx hy] at h
  rw [aB_zero hy hz] at k
  rw [aB_zero hx hz, ← k, ← oB_assoc hx hy hz, h]
theorem sub_pc {x y : Int} (hx : In64 x) (hy : In64 y) (h : aB x y = 0) : pc x ≤ pc y ∧ (pc y ≤ pc x → x = y) := by
  rw [aB_zero hx hy] at h
  have e := pc_or hy hx
  rw [oB_comm hy hx, h] at e
  have n := pc_nonneg (aB_in hy hx)
  refine ⟨by omega, fun k => ?_⟩
  have z : aB y x = 0 := (pc_zero (aB_in hy hx)).1 (by omega)
  rw [aB_zero hy hx, oB_comm hy hx, h] at z
  exact z.symm
def wiP (x y : V) : Prop := aB x.f0 y.f0 = 0 ∧ aB x.f1 y.f1 = 0
theorem RtV.l {v : V} (h : RtV v) : In64 v.f0 := ⟨h.1, h.2.1⟩
theorem RtV.r {v : V} (h : RtV v) : In64 v.f1 := ⟨h.2.2.1, h.2.2.2⟩
theorem wiP_trans {x y z : V} (hx : RtV x) (hy : RtV y) (hz : RtV z) (h : wiP x y) (k : wiP y z) : wiP x z := ⟨sub_trans hx.l hy.l hz.l h.1 k.1, sub_trans hx.r hy.r hz.r h.2 k.2⟩
theorem wiP_refl {x : V} (hx : RtV x) : wiP x x := ⟨(aB_zero hx.l hx.l).2 (oB_self hx.l), (aB_zero hx.r hx.r).2 (oB_self hx.r)⟩
theorem wiP_size {x y : V} (hx : RtV x) (hy : RtV y) (h : wiP x y) : kS x ≤ kS y ∧ (kS y ≤ kS x → x = y) := by
  rw [kS_right hx, kS_right hy]
  have h1 := sub_pc hx.l hy.l h.1
  have h2 := sub_pc hx.r hy.r h.2
  refine ⟨by omega, fun k => ?_⟩
  have e1 := h1.2 (by omega)
  have e2 := h2.2 (by omega)
  cases x; cases y
  simp only at e1 e2
  rw [e1, e2]

/-! joins of views that are right -/
theorem joinV_eq {a c : V} (ha : RtV a) : joinV a c = ⟨oB a.f0 c.f0, oB a.f1 c.f1⟩ := by
  show (⟨oB (oB 0 a.f0) c.f0, oB (oB 0 a.f1) c.f1⟩ : V) = _
  rw [oB_zero ha.l, oB_zero ha.r]
theorem sub_or {x y : Int} (hx : In64 x) (hy : In64 y) : aB x (oB x y) = 0 := by
  rw [aB_zero hx (oB_in hx hy), ← oB_assoc hx hx hy, oB_self hx]
theorem sub_or' {x y : Int} (hx : In64 x) (hy : In64 y) : aB y (oB x y) = 0 := by
  rw [oB_comm hx hy]; exact sub_or hy hx
theorem or_sub {x y z : Int} (hx : In64 x) (hy : In64 y) (hz : In64 z) (h : aB x z = 0) (k : aB y z = 0) : aB (oB x y) z = 0 := by
  rw [aB_zero hx hz] at h
  rw [aB_zero hy hz] at k
  rw [aB_zero (oB_in hx hy) hz, oB_assoc hx hy hz, k, h]
theorem wi_left {a c : V} (ha : RtV a) (hc : RtV c) : wiP a (joinV a c) := by
  rw [joinV_eq ha]; exact ⟨sub_or ha.l hc.l, sub_or ha.r hc.r⟩
theorem wi_right {a c : V} (ha : RtV a) (hc : RtV c) : wiP c (joinV a c) := by
  rw [joinV_eq ha]; exact ⟨sub_or' ha.l hc.l, sub_or' ha.r hc.r⟩
theorem wi_join {a c z : V} (ha : RtV a) (hc : RtV c) (hz : RtV z) (h : wiP a z) (k : wiP c z) : wiP (joinV a c) z := by
  rw [joinV_eq ha]; exact ⟨or_sub ha.l hc.l hz.l h.1 k.1, or_sub ha.r hc.r hz.r h.2 k.2⟩
theorem v00 : RtV ⟨0, 0⟩ := ⟨by decide, by decide, by decide, by decide⟩
theorem joinL_all (cs : List V) : ∀ m : V, RtV m → (∀ c ∈ cs, RtV c) → RtV ⟨(joinL (m.f0, m.f1) cs).1, (joinL (m.f0, m.f1) cs).2⟩ ∧ wiP m ⟨(joinL (m.f0, m.f1) cs).1, (joinL (m.f0, m.f1) cs).2⟩ ∧ ∀ c ∈ cs, wiP c ⟨(joinL (m.f0, m.f1) cs).1, (joinL (m.f0, m.f1) cs).2⟩ := by
  induction cs with
  | nil => intro m hm _; exact ⟨hm, wiP_refl hm, fun c hc => by simp at hc⟩
  | cons c cs ih =>
    intro m hm hc
    have h1 := hc c (List.mem_cons_self ..)
    have hj := joinV_right hm h1
    have e : joinL (m.f0, m.f1) (c :: cs) = joinL ((joinV m c).f0, (joinV m c).f1) cs := by rw [joinV_eq hm]; rfl
    obtain ⟨r, w, a⟩ := ih (joinV m c) hj fun x hx => hc x (List.mem_cons_of_mem _ hx)
    rw [e]
    refine ⟨r, wiP_trans hm hj r (wi_left hm h1) w, fun x hx => ?_⟩
    rcases List.mem_cons.1 hx with rfl | hx
    · exact wiP_trans h1 hj r (wi_right hm h1) w
    · exact a x hx
/-- what holds of a front: its views and its aim -/
def FInv (l : List V) (aim : V) : Prop := l ≠ [] ∧ vstrict l ∧ (∀ v ∈ l, RtV v ∧ wiP v aim) ∧ RtV aim
def aimOf (aim : V) (cs : List V) : V := joinV aim ⟨(joinL (0, 0) cs).1, (joinL (0, 0) cs).2⟩
theorem vlt_size {a b : V} (h : vlt a b = true) : kS a ≤ kS b := by
  have := (vlt_iff a b).1 h; omega
theorem aim_facts {aim : V} (ha : RtV aim) {cs : List V} (hc : ∀ c ∈ cs, RtV c) : RtV (aimOf aim cs) ∧ wiP aim (aimOf aim cs) ∧ ∀ c ∈ cs, wiP c (aimOf aim cs) := by
  obtain ⟨r, _, w⟩ := joinL_all cs ⟨0, 0⟩ v00 hc
  have hj := joinV_right ha r
  exact ⟨hj, wi_left ha r, fun c h => wiP_trans (hc c h) r hj (w c h) (wi_right ha r)⟩
theorem step_inv {x : V} {l : List V} {aim : V} (hf : FInv (x :: l) aim) {cs : List V} (h0 : cs ≠ []) (hc : ∀ c ∈ cs, RtV c) (hn : ∀ c ∈ cs, ¬ wiP c x) :
    FInv (insAll x cs (unlike x (x :: l))) (aimOf aim cs) ∧ ∀ w ∈ insAll x cs (unlike x (x :: l)), w ≠ x ∧ kS x ≤ kS w := by
  obtain ⟨_, hs, hm, ha⟩ := hf
  obtain ⟨hx, hxa⟩ := hm x (List.mem_cons_self ..)
  obtain ⟨har, haw, hac⟩ := aim_facts ha hc
  have hr : ∀ w ∈ x :: l, RtV w := fun w hw => (hm w hw).1
  have hu : ∀ w ∈ unlike x (x :: l), RtV w := fun w hw => hr w ((unlike_mem _ _ _).1 hw).1
  refine ⟨⟨fun e => ?_, insAll_strict hx hc hu (unlike_strict hs), fun w hw => ⟨insAll_right hx hc hu w hw, ?_⟩, har⟩, fun w hw => ?_⟩
  · obtain ⟨c, cs', rfl⟩ := List.exists_cons_of_ne_nil h0
    have := (insAll_mem x (c :: cs') (unlike x (x :: l)) (joinV x c)).2 (.inr ⟨c, List.mem_cons_self .., rfl⟩)
    rw [e] at this
    simp at this
  · rcases (insAll_mem x cs _ w).1 hw with h | ⟨c, h, rfl⟩
    · have := hm w ((unlike_mem _ _ _).1 h).1
      exact wiP_trans this.1 ha har this.2 haw
    · exact wi_join hx (hc c h) har (wiP_trans hx ha har hxa haw) (hac c h)
  · rcases (insAll_mem x cs _ w).1 hw with h | ⟨c, h, rfl⟩
    · obtain ⟨h1, h2⟩ := (unlike_mem _ _ _).1 h
      refine ⟨h2, ?_⟩
      rcases List.mem_cons.1 h1 with e | h1
      · exact absurd e h2
      · exact vlt_size ((List.pairwise_cons.1 hs).1 w h1)
    · refine ⟨fun e => hn c h ?_, (wiP_size hx (joinV_right hx (hc c h)) (wi_left hx (hc c h))).1⟩
      have := wi_right hx (hc c h)
      rw [e] at this
      exact this
/-- where the least view is the aim, it is alone -/
theorem alone {x : V} {l : List V} {aim : V} (hf : FInv (x :: l) aim) (h : x = aim) : l = [] := by
  subst h
  obtain ⟨_, hs, hm, ha⟩ := hf
  cases l with
  | nil => rfl
  | cons y l =>
    exfalso
    have hlt := (List.pairwise_cons.1 hs).1 y (List.mem_cons_self ..)
    obtain ⟨hy, hw⟩ := hm y (List.mem_cons_of_mem _ (List.mem_cons_self ..))
    have := (wiP_size hy ha hw).2 (vlt_size hlt)
    subst this
    rw [vl_irrefl] at hlt
    cases hlt
theorem want_join {v aim : V} (hv : RtV v) (ha : RtV aim) (h : wiP v aim) : oB v.f0 (aB aim.f0 v.f0) = aim.f0 ∧ oB v.f1 (aB aim.f1 v.f1) = aim.f1 := by
  have key : ∀ {x y : Int}, In64 x → In64 y → aB x y = 0 → oB x (aB y x) = y := fun {x y} hx hy h => by
    rw [oB_comm hx (aB_in hy hx), (pairs hy hx).2.2.2.2.1, oB_comm hy hx]
    exact (aB_zero hx hy).1 h
  exact ⟨key hv.l ha.l h.1, key hv.r ha.r h.2⟩

theorem ref_Right_eq (a d : Int) : ropewayref04_Right.f a d = some (decide (0 ≤ a ∧ a < 64 ∧ 0 ≤ d ∧ d < 64)) := by
  unfold ropewayref04_Right.f
  by_cases h1 : a ≥ 0
  · rw [if_pos h1]
    by_cases h2 : a ≤ 63
    · rw [if_pos h2]
      by_cases h3 : d ≥ 0
      · rw [if_pos h3, Option.some.injEq, decide_eq_decide]; omega
      · rw [if_neg h3, decide_eq_false (by omega)]
    · rw [if_neg h2, decide_eq_false (by omega)]
  · rw [if_neg h1, decide_eq_false (by omega)]

/-! the front's law: its own words -/
def rtB (v : V) : Bool := decide (0 ≤ v.f0 ∧ v.f0 < 64 ∧ 0 ≤ v.f1 ∧ v.f1 < 64)
theorem rtB_iff (v : V) : rtB v = true ↔ RtV v := decide_eq_true_iff
theorem right_l0 (xs : List V) (hn : xs.length < 4611686018427387904) (d : Nat) : ∀ (i : Nat), xs.length - i = d → i ≤ xs.length →
    Ev (fun k => ropewaylaw16_right.l0 k xs (xs.length : Int) (i : Int)) ((xs.drop i).all rtB) := by
  induction d with
  | zero =>
    intro i hd hi
    refine Ev.const fun k => ?_
    simp only [ropewaylaw16_right.l0]
    rw [if_neg (by omega), List.drop_eq_nil_of_le (by omega)]
    rfl
  | succ d ih =>
    intro i hd hi
    have hlt : i < xs.length := by omega
    have e : rd_T24 xs i = xs.getD i z24 := rfl
    rw [drop_cons hlt z24]
    refine Ev.succ ?_
    simp only [ropewaylaw16_right.l0]
    rw [e, wrap_nat (by omega)]
    generalize hx : xs.getD i z24 = x
    refine Ev.ite_pos (by omega) (Ev.ite_pos (by omega) (Ev.ite_pos (by omega) (Ev.bind_all (ref_Right_eq _ _) ?_)))
    rw [List.all_cons]
    refine Ev.ite (fun h => ?_) (fun h => ?_)
    · rw [show rtB x = true from h, Bool.true_and]
      exact ih (i + 1) (by omega) (by omega)
    · rw [show rtB x = false from Bool.eq_false_iff.2 h, Bool.false_and]
      exact Ev.all fun k => rfl
theorem right_ev (xs : List V) (hn : xs.length < 4611686018427387904) : Ev (fun k => ropewaylaw16_right.f k xs) (xs.all rtB) := right_l0 xs hn xs.length 0 (by omega) (by omega)

/-! the document's bits -/
def bitB (x n : Int) : Bool := x / 2 ^ n.toNat % 2 == 1
def Rt (a d : Int) : Prop := 0 ≤ a ∧ a < 64 ∧ 0 ≤ d ∧ d < 64

theorem ref_bit_l0 (m : Nat) : ∀ (x : Int) (i n : Nat), n - i = m → i ≤ n → n < 4611686018427387904 → 0 ≤ x → x < 64 → Ev (fun k => ropewayref04_bit.l0 k x (n : Int) (i : Int)) (x / 2 ^ (n - i) % 2 == 1) := by
  induction m with
  | zero =>
    intro x i n hm hi hn h0 h1
    refine Ev.const fun k => ?_
    simp only [ropewayref04_bit.l0]
    rw [if_neg (by omega), show n - i = 0 by omega, Int.tmod_eq_emod_of_nonneg h0]
    simp
  | succ m ih =>
    intro x i n hm hi hn h0 h1
    have := ih (x / 2) (i + 1) n (by omega) (by omega) hn (by omega) (by omega)
    have e : x / 2 ^ (n - i) = x / 2 / 2 ^ (n - (i + 1)) := by
      rw [show n - i = n - (i + 1) + 1 by omega, Int.pow_succ, Int.mul_comm, Int.ediv_ediv_of_nonneg (by omega)]
    rw [e]
    refine Ev.step' this fun k => ?_
    simp only [ropewayref04_bit.l0]
    rw [if_pos (by omega), Int.tdiv_eq_ediv_of_nonneg h0, wrap_in (x := x / 2) (by omega) (by omega), wrap_nat (by omega)]
theorem ref_bit_ev {x n : Int} (h0 : 0 ≤ x) (h1 : x < 64) (h2 : 0 ≤ n) (h3 : n < 4611686018427387904) : Ev (fun k => ropewayref04_bit.f k x n) (bitB x n) := by
  have := ref_bit_l0 n.toNat x 0 n.toNat (by omega) (by omega) (by omega) h0 h1
  rw [Int.toNat_of_nonneg h2] at this
  exact this
theorem ref_Has_ev {a d n : Int} (h : Rt a d) (h2 : 0 ≤ n) (h3 : n < 4611686018427387904) : Ev (fun k => ropewayref04_Has.f k a d n) (bitB a n, bitB d n) := by
  unfold ropewayref04_Has.f
  refine Ev.bind (ref_bit_ev h.1 h.2.1 h2 h3) ?_
  refine Ev.bind (ref_bit_ev h.2.2.1 h.2.2.2 h2 h3) ?_
  exact Ev.all fun k => rfl

/-! six bools as a set's number -/
def toN (f : Nat → Bool) : Int := (if f 0 = true then 1 else 0) + (if f 1 = true then 2 else 0) + (if f 2 = true then 4 else 0) + (if f 3 = true then 8 else 0) + (if f 4 = true then 16 else 0) + (if f 5 = true then 32 else 0)
def up (f : Nat → Bool) (j : Int) (v : Bool) : Nat → Bool := fun i => stA j (i : Int) v (f i)
def six6 (a b c d e f : Bool) : Nat → Bool
  | 0 => a | 1 => b | 2 => c | 3 => d | 4 => e | _ => f
theorem toN_six (f : Nat → Bool) : toN f = toN (six6 (f 0) (f 1) (f 2) (f 3) (f 4) (f 5)) := rfl
theorem toN_range (f : Nat → Bool) : 0 ≤ toN f ∧ toN f < 64 := by
  unfold toN
  constructor <;> (repeat' split) <;> omega
theorem set_closed : ∀ a0 a1 a2 a3 a4 a5 b0 b1 b2 b3 b4 b5 : Bool, ropewayref04_set.f 8 a0 a1 a2 a3 a4 a5 b0 b1 b2 b3 b4 b5 = some (toN (six6 a0 a1 a2 a3 a4 a5), toN (six6 b0 b1 b2 b3 b4 b5)) := by decide +kernel
theorem set_ev (f g : Nat → Bool) : Ev (fun k => ropewayref04_set.f k (f 0) (f 1) (f 2) (f 3) (f 4) (f 5) (g 0) (g 1) (g 2) (g 3) (g 4) (g 5)) (toN f, toN g) :=
  Ev.closed (ropewayref04_set.mono _ _ _ _ _ _ _ _ _ _ _ _) 8 (set_closed _ _ _ _ _ _ _ _ _ _ _ _)

theorem toN_congr {p q : Nat → Bool} (h : ∀ j, j < 6 → p j = q j) : toN p = toN q := by
  unfold toN
  rw [h 0 (by omega), h 1 (by omega), h 2 (by omega), h 3 (by omega), h 4 (by omega), h 5 (by omega)]
theorem rd6 (f : Nat → Bool) {i : Nat} (h : i < 6) : rdOf false [f 0, f 1, f 2, f 3, f 4, f 5] (i : Int) = f i := by
  have : i = 0 ∨ i = 1 ∨ i = 2 ∨ i = 3 ∨ i = 4 ∨ i = 5 := by omega
  rcases this with rfl | rfl | rfl | rfl | rfl | rfl <;> rfl
theorem up_at (f : Nat → Bool) (i j : Nat) (v : Bool) : up f (i : Int) v j = if i = j then v else f j := by
  unfold up stA
  by_cases h : i = j
  · rw [if_pos h, if_pos (by omega)]
  · rw [if_neg h, if_neg (by omega)]
theorem bit_toN_closed : ∀ a0 a1 a2 a3 a4 a5 : Bool, ∀ n : Fin 6, bitB (toN (six6 a0 a1 a2 a3 a4 a5)) (n.val : Int) = six6 a0 a1 a2 a3 a4 a5 n.val := by decide +kernel
theorem bit_toN (f : Nat → Bool) {j : Nat} (h : j < 6) : bitB (toN f) (j : Int) = f j := by
  have := bit_toN_closed (f 0) (f 1) (f 2) (f 3) (f 4) (f 5) ⟨j, h⟩
  rw [toN_six]
  refine this.trans ?_
  have : j = 0 ∨ j = 1 ∨ j = 2 ∨ j = 3 ∨ j = 4 ∨ j = 5 := by omega
  rcases this with rfl | rfl | rfl | rfl | rfl | rfl <;> rfl
theorem toN_ops {x y : Int} (hx : In64 x) (hy : In64 y) : toN (fun j => bitB x (j : Int) || bitB y (j : Int)) = oB x y ∧ toN (fun j => bitB x (j : Int) && !bitB y (j : Int)) = aB x y :=
  set2 (fun x y => toN (fun j => bitB x (j : Int) || bitB y (j : Int)) = oB x y ∧ toN (fun j => bitB x (j : Int) && !bitB y (j : Int)) = aB x y) (by decide +kernel) hx.1 hx.2 hy.1 hy.2
theorem bit_or {x y : Int} (hx : In64 x) (hy : In64 y) {j : Nat} (h : j < 6) : bitB (oB x y) (j : Int) = (bitB x (j : Int) || bitB y (j : Int)) := by
  rw [← (toN_ops hx hy).1, bit_toN _ h]

theorem ref_Minus_l0 (a d b e : Int) (ha : Rt a d) (hb : Rt b e) (m : Nat) : ∀ (i : Nat) (f g : Nat → Bool), 6 - i = m → i ≤ 6 →
    (∀ j, j < 6 → f j = (decide (j < i) && (bitB a (j : Int) && !bitB b (j : Int)))) → (∀ j, j < 6 → g j = (decide (j < i) && (bitB d (j : Int) && !bitB e (j : Int)))) →
    Ev (fun k => ropewayref04_Minus.l0 k (i : Int) a d b e (f 0) (f 1) (f 2) (f 3) (f 4) (f 5) (g 0) (g 1) (g 2) (g 3) (g 4) (g 5)) (aB a b, aB d e) := by
  induction m with
  | zero =>
    intro i f g hm hi hf hg
    obtain rfl : i = 6 := by omega
    refine Ev.succ ?_
    simp only [ropewayref04_Minus.l0]
    refine Ev.ite_neg (by decide) ?_
    refine Ev.bind (set_ev f g) (Ev.all fun k => ?_)
    rw [← (toN_ops (x := a) (y := b) ⟨ha.1, ha.2.1⟩ ⟨hb.1, hb.2.1⟩).2, ← (toN_ops (x := d) (y := e) ⟨ha.2.2.1, ha.2.2.2⟩ ⟨hb.2.2.1, hb.2.2.2⟩).2,
      toN_congr (p := f) (q := fun j => bitB a (j : Int) && !bitB b (j : Int)) (fun j hj => by rw [hf j hj, decide_eq_true hj, Bool.true_and]),
      toN_congr (p := g) (q := fun j => bitB d (j : Int) && !bitB e (j : Int)) (fun j hj => by rw [hg j hj, decide_eq_true hj, Bool.true_and])]
  | succ m ih =>
    intro i f g hm hi hf hg
    have hlt : i < 6 := by omega
    have nx : ∀ (h : Nat → Bool) (x y : Int) (v : Bool), (∀ j, j < 6 → h j = (decide (j < i) && (bitB x (j : Int) && !bitB y (j : Int)))) → v = (bitB x (i : Int) && !bitB y (i : Int)) → ∀ j, j < 6 → up h (i : Int) v j = (decide (j < i + 1) && (bitB x (j : Int) && !bitB y (j : Int))) := by
      intro h x y v hh hv j hj
      rw [up_at]
      by_cases e : i = j
      · subst e; rw [if_pos rfl, hv, decide_eq_true (by omega), Bool.true_and]
      · rw [if_neg e, hh j hj]
        by_cases z : j < i
        · rw [decide_eq_true z, decide_eq_true (by omega)]
        · rw [decide_eq_false z, decide_eq_false (by omega)]
    have go : ∀ v w : Bool, v = (bitB a (i : Int) && !bitB b (i : Int)) → w = (bitB d (i : Int) && !bitB e (i : Int)) → Ev (fun k => ropewayref04_Minus.l0 k ((i + 1 : Nat) : Int) a d b e (up f (i : Int) v 0) (up f (i : Int) v 1) (up f (i : Int) v 2) (up f (i : Int) v 3) (up f (i : Int) v 4) (up f (i : Int) v 5) (up g (i : Int) w 0) (up g (i : Int) w 1) (up g (i : Int) w 2) (up g (i : Int) w 3) (up g (i : Int) w 4) (up g (i : Int) w 5)) (aB a b, aB d e) :=
      fun v w hv hw => ih (i + 1) (up f (i : Int) v) (up g (i : Int) w) (by omega) (by omega) (nx f a b v hf hv) (nx g d e w hg hw)
    refine Ev.succ ?_
    simp only [ropewayref04_Minus.l0]
    refine Ev.ite_pos (by omega) ?_
    refine Ev.bind (ref_Has_ev ha (by omega) (by omega)) ?_
    refine Ev.bind (ref_Has_ev hb (by omega) (by omega)) ?_
    rw [wrap_nat (by omega)]
    refine Ev.ite (fun (h1 : bitB a i = true) => Ev.ite_pos (by omega) (Ev.ite (fun (h2 : bitB d i = true) => ?_) (fun (h2 : ¬ bitB d i = true) => ?_))) (fun (h1 : ¬ bitB a i = true) => Ev.ite_pos (by omega) (Ev.ite (fun (h2 : bitB d i = true) => ?_) (fun (h2 : ¬ bitB d i = true) => ?_)))
    · exact go (!bitB b i) (!bitB e i) (by rw [h1]; rfl) (by rw [h2]; rfl)
    · exact go (!bitB b i) false (by rw [h1]; rfl) (by rw [Bool.eq_false_iff.2 h2]; rfl)
    · exact go false (!bitB e i) (by rw [Bool.eq_false_iff.2 h1]; rfl) (by rw [h2]; rfl)
    · exact go false false (by rw [Bool.eq_false_iff.2 h1]; rfl) (by rw [Bool.eq_false_iff.2 h2]; rfl)
theorem ref_Minus_ev {a d b e : Int} (ha : Rt a d) (hb : Rt b e) : Ev (fun k => ropewayref04_Minus.f k a d b e) (aB a b, aB d e) :=
  ref_Minus_l0 a d b e ha hb 6 0 (fun _ => false) (fun _ => false) (by omega) (by omega) (fun j hj => by simp) (fun j hj => by simp)

def cnt (x : Int) : Nat → Int
  | 0 => 0
  | m + 1 => (if bitB x (5 - (m : Int)) = true then 1 else 0) + cnt x m
theorem cnt_pc {x : Int} (h0 : 0 ≤ x) (h1 : x < 64) : cnt x 6 = pc x := set1 (fun x => cnt x 6 = pc x) (by decide +kernel) h0 h1
theorem ref_Size_l0 (a d : Int) (ha : Rt a d) (m : Nat) : ∀ (i : Nat) (n : Int), 6 - i = m → i ≤ 6 → 0 ≤ n → n + 2 * (m : Int) ≤ 100 →
    Ev (fun k => ropewayref04_Size.l0 k n (i : Int) a d) (n + cnt a m + cnt d m) := by
  induction m with
  | zero =>
    intro i n hm hi h0 h1
    obtain rfl : i = 6 := by omega
    refine Ev.const fun k => ?_
    simp only [ropewayref04_Size.l0]
    rw [if_neg (by decide)]
    simp [cnt]
  | succ m ih =>
    intro i n hm hi h0 h1
    have e : (5 - (m : Int)) = (i : Int) := by omega
    simp only [cnt]
    rw [e]
    have w1 : wrap64 (n + 1) = n + 1 := wrap_in (by omega) (by omega)
    have w2 : wrap64 (n + 1 + 1) = n + 1 + 1 := wrap_in (by omega) (by omega)
    have go : ∀ n' r : Int, 0 ≤ n' → n' ≤ n + 2 → n' + cnt a m + cnt d m = r → Ev (fun k => ropewayref04_Size.l0 k n' ((i + 1 : Nat) : Int) a d) r := by
      intro n' r h2 h3 h4
      rw [← h4]
      exact ih (i + 1) n' (by omega) (by omega) h2 (by omega)
    refine Ev.succ ?_
    simp only [ropewayref04_Size.l0]
    refine Ev.ite_pos (by omega) ?_
    refine Ev.bind (ref_Has_ev ha (by omega) (by omega)) ?_
    rw [wrap_nat (by omega), w1, w2]
    refine Ev.ite (fun (h1 : bitB a i = true) => Ev.ite (fun (h2 : bitB d i = true) => ?_) (fun (h2 : ¬ bitB d i = true) => ?_)) (fun (h1 : ¬ bitB a i = true) => Ev.ite (fun (h2 : bitB d i = true) => ?_) (fun (h2 : ¬ bitB d i = true) => ?_))
    · rw [if_pos h1, if_pos h2]; exact go _ _ (by omega) (by omega) (by omega)
    · rw [if_pos h1, if_neg h2]; exact go _ _ (by omega) (by omega) (by omega)
    · rw [if_neg h1, if_pos h2]; exact go _ _ (by omega) (by omega) (by omega)
    · rw [if_neg h1, if_neg h2]; exact go _ _ (by omega) (by omega) (by omega)

theorem RtV.rt {v : V} (h : RtV v) : Rt v.f0 v.f1 := h
theorem ref_Size_ev {v : V} (h : RtV v) : Ev (fun k => ropewayref04_Size.f k v.f0 v.f1) (kS v) := by
  have := ref_Size_l0 v.f0 v.f1 h.rt 6 0 0 (by omega) (by omega) (by omega) (by omega)
  rw [cnt_pc h.1 h.2.1, cnt_pc h.2.2.1 h.2.2.2] at this
  rw [kS_right h]
  rw [show (0 : Int) + pc v.f0 + pc v.f1 = pc v.f0 + pc v.f1 by omega] at this
  exact this
theorem ref_Name_eq {v : V} (h : RtV v) : ropewayref04_Name.f v.f0 v.f1 = some (kN v) := by
  unfold ropewayref04_Name.f
  rw [kN_right h]
  obtain ⟨h0, h1, h2, h3⟩ := h
  rw [wrap_in (x := 64 * v.f0) (by omega) (by omega), wrap_in (by omega) (by omega), Int.mul_comm]
theorem ref_Less_ev {a b : V} (ha : RtV a) (hb : RtV b) : Ev (fun k => ropewayref05_Less.f k a.f0 a.f1 b.f0 b.f1) (vlt a b) := by
  unfold ropewayref05_Less.f
  refine Ev.bind (ref_Size_ev ha) (Ev.bind (ref_Size_ev hb) ?_)
  by_cases h : kS a = kS b
  · refine Ev.ite_pos h (Ev.bind_all (ref_Name_eq ha) (Ev.bind_all (ref_Name_eq hb) (Ev.all fun k => ?_)))
    unfold vlt
    rw [Option.some.injEq, decide_eq_decide]; omega
  · refine Ev.ite_neg h (Ev.bind (ref_Size_ev ha) (Ev.bind (ref_Size_ev hb) (Ev.all fun k => ?_)))
    unfold vlt
    rw [Option.some.injEq, decide_eq_decide]; omega

/-! ropewayref16.sorted: each time the least that stands behind the last one -/
def pickG (ok : V → Bool) : List V → Option V → Option V
  | [], o => o
  | v :: l, o => pickG ok l (if ok v = true then (match o with | none => some v | some b => if vlt v b = true then some v else some b) else o)
theorem pickG_mem (ok : V → Bool) (l : List V) : ∀ (o : Option V) (b : V), pickG ok l o = some b → o = some b ∨ (ok b = true ∧ b ∈ l) := by
  induction l with
  | nil => intro o b h; exact .inl h
  | cons v l ih =>
    intro o b h
    simp only [pickG] at h
    rcases ih _ b h with h1 | ⟨h1, h2⟩
    · by_cases hk : ok v = true
      · rw [if_pos hk] at h1
        cases o with
        | none => cases h1; exact .inr ⟨hk, List.mem_cons_self ..⟩
        | some b0 =>
          simp only at h1
          split at h1
          · cases h1; exact .inr ⟨hk, List.mem_cons_self ..⟩
          · exact .inl h1
      · rw [if_neg hk] at h1; exact .inl h1
    · exact .inr ⟨h1, List.mem_cons_of_mem _ h2⟩
theorem vl_ntrans {a b c : V} (h : vlt a b = false) (k : vlt b c = false) : vlt a c = false := by
  have h' := mt (vlt_iff a b).2 (by rw [h]; simp)
  have k' := mt (vlt_iff b c).2 (by rw [k]; simp)
  rw [Bool.eq_false_iff]
  intro e
  have := (vlt_iff a c).1 e
  omega
theorem vl_asymm {a b : V} (h : vlt a b = true) : vlt b a = false := by
  rw [Bool.eq_false_iff]; intro e; have := (vlt_iff a b).1 h; have := (vlt_iff b a).1 e; omega
theorem pickG_least (ok : V → Bool) (l : List V) : ∀ (o : Option V) (b : V), pickG ok l o = some b → (∀ b0, o = some b0 → vlt b0 b = false) ∧ ∀ v ∈ l, ok v = true → vlt v b = false := by
  induction l with
  | nil => intro o b h; exact ⟨fun b0 e => by rw [show pickG ok [] o = o from rfl, e] at h; cases h; exact vl_irrefl _, fun c hc => by simp at hc⟩
  | cons v l ih =>
    intro o b h
    simp only [pickG] at h
    obtain ⟨h1, h2⟩ := ih _ b h
    by_cases hk : ok v = true
    · rw [if_pos hk] at h1
      cases o with
      | none =>
        have := h1 _ rfl
        refine ⟨fun b0 e => by simp at e, fun x hx hn => ?_⟩
        rcases List.mem_cons.1 hx with rfl | hx
        · exact this
        · exact h2 x hx hn
      | some b0 =>
        simp only at h1
        by_cases hl : vlt v b0 = true
        · rw [if_pos hl] at h1
          have h3 := h1 _ rfl
          refine ⟨fun b1 e => by cases e; exact vl_ntrans (vl_asymm hl) h3, fun x hx hn => ?_⟩
          rcases List.mem_cons.1 hx with rfl | hx
          · exact h3
          · exact h2 x hx hn
        · rw [if_neg hl] at h1
          have h3 := h1 _ rfl
          refine ⟨fun b1 e => by cases e; exact h3, fun x hx hn => ?_⟩
          rcases List.mem_cons.1 hx with rfl | hx
          · exact vl_ntrans (Bool.eq_false_iff.2 hl) h3
          · exact h2 x hx hn
    · rw [if_neg hk] at h1
      refine ⟨h1, fun x hx hn => ?_⟩
      rcases List.mem_cons.1 hx with rfl | hx
      · exact absurd hn hk
      · exact h2 x hx hn
theorem pickG_none (ok : V → Bool) (l : List V) : ∀ (o : Option V), pickG ok l o = none → o = none ∧ ∀ v ∈ l, ok v = false := by
  induction l with
  | nil => intro o h; exact ⟨h, fun c hc => by simp at hc⟩
  | cons v l ih =>
    intro o h
    simp only [pickG] at h
    obtain ⟨h1, h2⟩ := ih _ h
    by_cases hk : ok v = true
    · rw [if_pos hk] at h1
      cases o with
      | none => simp at h1
      | some b0 => simp only at h1; split at h1 <;> simp at h1
    · rw [if_neg hk] at h1
      refine ⟨h1, fun x hx => ?_⟩
      rcases List.mem_cons.1 hx with rfl | hx
      · exact Bool.eq_false_iff.2 hk
      · exact h2 x hx
/-- may it come next? -/
def behind (out : List V) (v : V) : Bool := match out.getLast? with | none => true | some w => vlt w v
theorem rsort_l1 (xs : List V) (hx : xs.length < 4611686018427387904) (hr : ∀ v ∈ xs, RtV v) (out : List V) (hor : ∀ v ∈ out, RtV v) (ho : out.length < 4611686018427387904) (R : List V) (d : Nat) : ∀ (i : Nat) (o : Option V), xs.length - i = d → i ≤ xs.length → (∀ b, o = some b → RtV b) →
    (pickG (behind out) (xs.drop i) o = none → R = out) → (∀ b, pickG (behind out) (xs.drop i) o = some b → Ev (fun k => if out.length < 8796093022208 then ropewayref16_sorted.l0 k xs (out ++ [b]) else none) R) →
    ∀ z : V, Ev (fun k => ropewayref16_sorted.l1 k xs out o.isSome xs (xs.length : Int) (i : Int) (o.getD z).f0 (o.getD z).f1) R := by
  induction d with
  | zero =>
    intro i o hd hi hb h1 h2 z
    rw [List.drop_eq_nil_of_le (by omega)] at h1 h2
    refine Ev.succ ?_
    simp only [ropewayref16_sorted.l1]
    refine Ev.ite_neg (by omega) ?_
    cases o with
    | none => rw [h1 rfl]; exact Ev.ite_neg (by simp) (Ev.all fun k => rfl)
    | some b => exact Ev.ite_pos rfl (h2 b rfl)
  | succ d ih =>
    intro i o hd hi hb h1 h2 z
    have hlt : i < xs.length := by omega
    have e : rd_T24 xs i = xs[i] := by show xs.getD i _ = _; rw [List.getD_eq_getElem?_getD, List.getElem?_eq_getElem hlt]; rfl
    have hxr := hr xs[i] (List.getElem_mem hlt)
    rw [List.drop_eq_getElem_cons hlt] at h1 h2
    refine Ev.succ ?_
    simp only [ropewayref16_sorted.l1]
    rw [e, wrap_nat (by omega)]
    generalize xs[i] = x at h1 h2 hxr
    simp only [pickG] at h1 h2
    refine Ev.ite_pos (by omega) (Ev.ite_pos (by omega) (Ev.ite_pos (by omega) ?_))
    have go : behind out x = true → Ev (fun k => if o.isSome = true then (ropewayref05_Less.f k x.f0 x.f1 (o.getD z).f0 (o.getD z).f1).bind fun t => (if t = true then (ropewayref16_sorted.l1 k xs out true xs (xs.length : Int) ((i + 1 : Nat) : Int) x.f0 x.f1) else (ropewayref16_sorted.l1 k xs out o.isSome xs (xs.length : Int) ((i + 1 : Nat) : Int) (o.getD z).f0 (o.getD z).f1)) else (ropewayref16_sorted.l1 k xs out true xs (xs.length : Int) ((i + 1 : Nat) : Int) x.f0 x.f1)) R := by
      intro hk
      rw [if_pos hk] at h1 h2
      cases o with
      | none => exact Ev.ite_neg (by simp) (ih (i + 1) (some x) (by omega) (by omega) (fun b e => by cases e; exact hxr) h1 h2 z)
      | some b =>
        refine Ev.ite_pos rfl (Ev.bind (ref_Less_ev hxr (hb b rfl)) ?_)
        simp only at h1 h2
        by_cases hl : vlt x b = true
        · rw [if_pos hl] at h1 h2
          exact Ev.ite_pos hl (ih (i + 1) (some x) (by omega) (by omega) (fun b e => by cases e; exact hxr) h1 h2 z)
        · rw [if_neg hl] at h1 h2
          exact Ev.ite_neg hl (ih (i + 1) (some b) (by omega) (by omega) hb h1 h2 z)
    by_cases h0 : out = []
    · subst h0
      exact Ev.ite_pos rfl (go rfl)
    · have hp : 0 < out.length := List.length_pos_iff.2 h0
      refine Ev.ite_neg (by omega) ?_
      have hw : wrap64 ((out.length : Int) - 1) = ((out.length - 1 : Nat) : Int) := by rw [wrap_in (by omega) (by omega)]; omega
      have e1 : rd_T24 out ((out.length - 1 : Nat) : Int) = out[out.length - 1] := by show out.getD (out.length - 1) _ = _; rw [List.getD_eq_getElem?_getD, List.getElem?_eq_getElem (by omega)]; rfl
      have hb1 : behind out x = vlt out[out.length - 1] x := by
        unfold behind
        rw [List.getLast?_eq_getElem?, List.getElem?_eq_getElem (by omega)]
      rw [hw, e1]
      refine Ev.ite_pos (by omega) (Ev.ite_pos (by omega) (Ev.bind (ref_Less_ev (hor _ (List.getElem_mem (by omega))) hxr) ?_))
      rw [← hb1]
      by_cases hk : behind out x = true
      · exact Ev.ite_pos hk (go hk)
      · rw [if_neg hk] at h1 h2
        exact Ev.ite_neg hk (ih (i + 1) o (by omega) (by omega) hb h1 h2 z)
theorem behind_mem {p : List V} (hs : vstrict p) {b : V} (hb : b ∈ p) : behind p b = false := by
  obtain ⟨q, w, rfl⟩ : ∃ q w, p = q ++ [w] := ⟨p.dropLast, p.getLast (List.ne_nil_of_mem hb), (List.dropLast_concat_getLast _).symm⟩
  unfold behind
  rw [List.getLast?_concat]
  show vlt w b = false
  rcases List.mem_append.1 hb with h | h
  · exact vl_asymm ((List.pairwise_append.1 hs).2.2 b h w (by simp))
  · simp at h; subst h; exact vl_irrefl _
theorem behind_next {p q : List V} {x : V} (hs : vstrict (p ++ x :: q)) : behind p x = true := by
  unfold behind
  cases h : p.getLast? with
  | none => rfl
  | some w => exact (List.pairwise_append.1 hs).2.2 w (List.mem_of_getLast? h) x (by simp)
theorem rsort_l0 (xs : List V) (hx : xs.length < 4611686018427387904) (hr : ∀ v ∈ xs, RtV v) (r : List V) (hs : vstrict r) (hm : ∀ w, w ∈ r ↔ w ∈ xs) (q : List V) : ∀ p : List V, p ++ q = r → Ev (fun k => ropewayref16_sorted.l0 k xs p) r := by
  have hrr : ∀ v ∈ r, RtV v := fun v h => hr v ((hm v).1 h)
  have hlen := right_len hs hrr
  induction q with
  | nil =>
    intro p hp
    rw [List.append_nil] at hp
    subst hp
    refine Ev.succ ?_
    simp only [ropewayref16_sorted.l0]
    refine rsort_l1 xs hx hr p hrr (by omega) p _ 0 none rfl (by omega) (fun b e => by simp at e) (fun _ => rfl) (fun b hb => ?_) ⟨0, 0⟩
    rw [List.drop_zero] at hb
    rcases pickG_mem _ _ _ _ hb with h | ⟨h1, h2⟩
    · simp at h
    · rw [behind_mem hs ((hm b).2 h2)] at h1; simp at h1
  | cons x q ih =>
    intro p hp
    subst hp
    have hpl : p.length ≤ 4096 := by rw [List.length_append] at hlen; omega
    have hxm : x ∈ xs := (hm x).1 (by simp)
    have hbx := behind_next hs
    refine Ev.succ ?_
    simp only [ropewayref16_sorted.l0]
    refine rsort_l1 xs hx hr p (fun v h => hrr v (List.mem_append_left _ h)) (by omega) _ _ 0 none rfl (by omega) (fun b e => by simp at e) (fun hn => ?_) (fun b hb => ?_) ⟨0, 0⟩
    · rw [List.drop_zero] at hn
      have := (pickG_none _ _ _ hn).2 x hxm
      rw [hbx] at this; simp at this
    · rw [List.drop_zero] at hb
      rcases pickG_mem _ _ _ _ hb with h | ⟨h1, h2⟩
      · simp at h
      have hl := (pickG_least _ _ _ _ hb).2 x hxm hbx
      have e : b = x := by
        rcases List.mem_append.1 ((hm b).2 h2) with h | h
        · rw [behind_mem ((List.pairwise_append.1 hs).1) h] at h1; simp at h1
        · rcases List.mem_cons.1 h with h | h
          · exact h
          · rw [(List.pairwise_cons.1 (List.pairwise_append.1 hs).2.1).1 b h] at hl; simp at hl
      subst e
      exact Ev.ite_pos (by omega) (ih (p ++ [b]) (by simp))
theorem rsort_ev (xs : List V) (hx : xs.length < 4611686018427387904) (hr : ∀ v ∈ xs, RtV v) (r : List V) (hs : vstrict r) (hm : ∀ w, w ∈ r ↔ w ∈ xs) : Ev (fun k => ropewayref16_sorted.f k xs) r := rsort_l0 xs hx hr r hs hm r [] rfl

/-! ropewayref04.Join: bit by bit -/
def anyB (sel : V → Int) : Bool → List V → Nat → Bool
  | b, [], _ => b
  | b, v :: l, j => anyB sel (b || bitB (sel v) (j : Int)) l j
theorem ref_Join_l1 (xs : List V) (p a d : Int) (hr : Rt a d) (f g : Nat → Bool) (R : Int × Int)
    (hc : ∀ f' g' : Nat → Bool, (∀ j, j < 6 → f' j = (f j || bitB a (j : Int))) → (∀ j, j < 6 → g' j = (g j || bitB d (j : Int))) →
      Ev (fun k => ropewayref04_Join.l0 k xs (xs.length : Int) (wrap64 (p + 1)) (f' 0) (f' 1) (f' 2) (f' 3) (f' 4) (f' 5) (g' 0) (g' 1) (g' 2) (g' 3) (g' 4) (g' 5)) R) (m : Nat) :
    ∀ (i : Nat) (f' g' : Nat → Bool), 6 - i = m → i ≤ 6 → (∀ j, j < 6 → f' j = (f j || (decide (j < i) && bitB a (j : Int)))) → (∀ j, j < 6 → g' j = (g j || (decide (j < i) && bitB d (j : Int)))) →
      Ev (fun k => ropewayref04_Join.l1 k (i : Int) xs (xs.length : Int) p (f' 0) (f' 1) (f' 2) (f' 3) (f' 4) (f' 5) (g' 0) (g' 1) (g' 2) (g' 3) (g' 4) (g' 5) a d) R := by
  induction m with
  | zero =>
    intro i f' g' hm hi hf hg
    obtain rfl : i = 6 := by omega
    refine Ev.succ ?_
    simp only [ropewayref04_Join.l1]
    refine Ev.ite_neg (by decide) ?_
    exact hc f' g' (fun j hj => by rw [hf j hj, decide_eq_true hj, Bool.true_and]) (fun j hj => by rw [hg j hj, decide_eq_true hj, Bool.true_and])
  | succ m ih =>
    intro i f' g' hm hi hf hg
    have hlt : i < 6 := by omega
    have fi : f' i = f i := by rw [hf i hlt]; simp
    have gi : g' i = g i := by rw [hg i hlt]; simp
    have nx : ∀ (h h' : Nat → Bool) (x : Int) (v : Bool), (∀ j, j < 6 → h' j = (h j || (decide (j < i) && bitB x (j : Int)))) → v = (h i || bitB x (i : Int)) → ∀ j, j < 6 → up h' (i : Int) v j = (h j || (decide (j < i + 1) && bitB x (j : Int))) := by
      intro h h' x v hh hv j hj
      rw [up_at]
      by_cases e : i = j
      · subst e; rw [if_pos rfl, hv, decide_eq_true (by omega), Bool.true_and]
      · rw [if_neg e, hh j hj]
        by_cases z : j < i
        · rw [decide_eq_true z, decide_eq_true (by omega)]
        · rw [decide_eq_false z, decide_eq_false (by omega)]
    have go : ∀ v w : Bool, v = (f i || bitB a (i : Int)) → w = (g i || bitB d (i : Int)) → Ev (fun k => ropewayref04_Join.l1 k ((i + 1 : Nat) : Int) xs (xs.length : Int) p (up f' (i : Int) v 0) (up f' (i : Int) v 1) (up f' (i : Int) v 2) (up f' (i : Int) v 3) (up f' (i : Int) v 4) (up f' (i : Int) v 5) (up g' (i : Int) w 0) (up g' (i : Int) w 1) (up g' (i : Int) w 2) (up g' (i : Int) w 3) (up g' (i : Int) w 4) (up g' (i : Int) w 5) a d) R :=
      fun v w hv hw => ih (i + 1) (up f' (i : Int) v) (up g' (i : Int) w) (by omega) (by omega) (nx f f' a v hf hv) (nx g g' d w hg hw)
    refine Ev.succ ?_
    simp only [ropewayref04_Join.l1]
    refine Ev.ite_pos (by omega) ?_
    refine Ev.bind (ref_Has_ev hr (by omega) (by omega)) ?_
    refine Ev.ite_pos (by omega) ?_
    rw [rd6 f' hlt, rd6 g' hlt, wrap_nat (by omega), fi, gi]
    refine Ev.ite (fun h1 => Ev.ite (fun h2 => ?_) (fun h2 => ?_)) (fun h1 => Ev.ite (fun h2 => ?_) (fun h2 => ?_))
    · exact go true true (by rw [h1]; rfl) (by rw [h2]; rfl)
    · exact go true (bitB d i) (by rw [h1]; rfl) (by rw [Bool.eq_false_iff.2 h2]; rfl)
    · exact go (bitB a i) true (by rw [Bool.eq_false_iff.2 h1]; rfl) (by rw [h2]; rfl)
    · exact go (bitB a i) (bitB d i) (by rw [Bool.eq_false_iff.2 h1]; rfl) (by rw [Bool.eq_false_iff.2 h2]; rfl)
theorem ref_Join_l0 (xs : List V) (hn : xs.length < 4611686018427387904) (hv : ∀ v ∈ xs, Rt v.f0 v.f1) (n : Nat) : ∀ (i : Nat) (f g : Nat → Bool), xs.length - i = n → i ≤ xs.length →
    Ev (fun k => ropewayref04_Join.l0 k xs (xs.length : Int) (i : Int) (f 0) (f 1) (f 2) (f 3) (f 4) (f 5) (g 0) (g 1) (g 2) (g 3) (g 4) (g 5)) (toN (fun j => anyB (·.f0) (f j) (xs.drop i) j), toN (fun j => anyB (·.f1) (g j) (xs.drop i) j)) := by
  induction n with
  | zero =>
    intro i f g hd hi
    refine Ev.succ ?_
    simp only [ropewayref04_Join.l0]
    refine Ev.ite_neg (by omega) ?_
    rw [List.drop_eq_nil_of_le (by omega)]
    exact Ev.bind (set_ev f g) (Ev.all fun k => rfl)
  | succ n ih =>
    intro i f g hd hi
    have hlt : i < xs.length := by omega
    have e : rd_T24 xs i = xs.getD i z24 := rfl
    have hx := hv _ (getD_mem hlt z24)
    rw [drop_cons hlt z24]
    refine Ev.succ ?_
    simp only [ropewayref04_Join.l0]
    refine Ev.ite_pos (by omega) (Ev.ite_pos (by omega) (Ev.ite_pos (by omega) ?_))
    rw [e]
    generalize xs.getD i z24 = x at *
    refine ref_Join_l1 xs (i : Int) x.f0 x.f1 hx f g _ (fun f' g' hf hg => ?_) 6 0 f g (by omega) (by omega) (fun j hj => by simp) (fun j hj => by simp)
    rw [wrap_nat (by omega)]
    have := ih (i + 1) f' g' (by omega) (by omega)
    rw [toN_congr (p := fun j => anyB (·.f0) (f' j) (xs.drop (i + 1)) j) (q := fun j => anyB (·.f0) (f j) (x :: xs.drop (i + 1)) j) (fun j hj => by simp only [anyB]; rw [hf j hj]),
      toN_congr (p := fun j => anyB (·.f1) (g' j) (xs.drop (i + 1)) j) (q := fun j => anyB (·.f1) (g j) (x :: xs.drop (i + 1)) j) (fun j hj => by simp only [anyB]; rw [hg j hj])] at this
    exact this
theorem any2 (sel : V → Int) (u v : V) (hu : In64 (sel u)) (hv : In64 (sel v)) : toN (fun j => anyB sel false [u, v] j) = oB (oB 0 (sel u)) (sel v) := by
  rw [oB_zero hu, ← (toN_ops hu hv).1]
  refine toN_congr fun j hj => ?_
  simp [anyB]
theorem ref_Join_two (u v : V) (hu : Rt u.f0 u.f1) (hv : Rt v.f0 v.f1) : Ev (fun k => ropewayref04_Join.f k [u, v]) ((joinV u v).f0, (joinV u v).f1) := by
  have h := ref_Join_l0 [u, v] (by simp) (by intro x hx; simp at hx; rcases hx with rfl | rfl <;> assumption) 2 0 (fun _ => false) (fun _ => false) (by simp) (by simp)
  rw [List.drop_zero, any2 (·.f0) u v ⟨hu.1, hu.2.1⟩ ⟨hv.1, hv.2.1⟩, any2 (·.f1) u v ⟨hu.2.2.1, hu.2.2.2⟩ ⟨hv.2.2.1, hv.2.2.2⟩] at h
  exact h

/-! ropewayref05.Same of a list and itself -/
theorem vsame_l0 (xs : List V) (hn : xs.length < 4611686018427387904) (d : Nat) : ∀ (i : Nat), xs.length - i = d → i ≤ xs.length →
    Ev (fun k => ropewayref05_Same.l0 k xs xs (xs.length : Int) (i : Int)) true := by
  induction d with
  | zero =>
    intro i hd hi
    refine Ev.const fun k => ?_
    simp only [ropewayref05_Same.l0]
    rw [if_neg (by omega)]
  | succ d ih =>
    intro i hd hi
    refine Ev.succ ?_
    simp only [ropewayref05_Same.l0]
    refine Ev.ite_pos (by omega) (Ev.ite_pos (by omega) (Ev.ite_pos (by omega) (Ev.ite_pos (by omega) (Ev.ite_neg (by simp) ?_))))
    rw [wrap_nat (by omega)]
    exact ih (i + 1) (by omega) (by omega)
theorem vsame_ev (xs : List V) (hn : xs.length < 4611686018427387904) : Ev (fun k => ropewayref05_Same.f k xs xs) true := by
  unfold ropewayref05_Same.f
  exact Ev.ite_pos rfl (vsame_l0 xs hn xs.length 0 (by omega) (by omega))

/-! ropewayref16.Step, Least -/
def foldJ (m : V) (cs : List V) : V := cs.foldl joinV m
theorem foldJ_eq (cs : List V) (hc : ∀ c ∈ cs, RtV c) : ∀ m a : V, RtV m → RtV a → foldJ (joinV m a) cs = joinV m (foldJ a cs) := by
  induction cs with
  | nil => intro m a _ _; rfl
  | cons c cs ih =>
    intro m a hm ha
    have h1 := hc c (List.mem_cons_self ..)
    have e : joinV (joinV m a) c = joinV m (joinV a c) := by
      rw [joinV_eq (joinV_right hm ha), joinV_eq hm, joinV_eq hm, joinV_eq ha]
      show (⟨oB (oB m.f0 a.f0) c.f0, oB (oB m.f1 a.f1) c.f1⟩ : V) = ⟨oB m.f0 (oB a.f0 c.f0), oB m.f1 (oB a.f1 c.f1)⟩
      rw [oB_assoc hm.l ha.l h1.l, oB_assoc hm.r ha.r h1.r]
    show foldJ (joinV (joinV m a) c) cs = joinV m (foldJ (joinV a c) cs)
    rw [e]
    exact ih (fun x h => hc x (List.mem_cons_of_mem _ h)) m (joinV a c) hm (joinV_right ha h1)
theorem foldJ_joinL (cs : List V) (hc : ∀ c ∈ cs, RtV c) : ∀ m : V, RtV m → foldJ m cs = ⟨(joinL (m.f0, m.f1) cs).1, (joinL (m.f0, m.f1) cs).2⟩ := by
  induction cs with
  | nil => intro m _; rfl
  | cons c cs ih =>
    intro m hm
    have h1 := hc c (List.mem_cons_self ..)
    show foldJ (joinV m c) cs = _
    rw [ih (fun x h => hc x (List.mem_cons_of_mem _ h)) _ (joinV_right hm h1), joinV_eq hm]
    rfl
theorem foldJ_aim (cs : List V) (hc : ∀ c ∈ cs, RtV c) (m : V) (hm : RtV m) : foldJ m cs = aimOf m cs := by
  have h := foldJ_eq cs hc m ⟨0, 0⟩ hm v00
  have e : joinV m ⟨0, 0⟩ = m := by
    rw [joinV_eq hm]
    show (⟨oB m.f0 0, oB m.f1 0⟩ : V) = m
    rw [oB_comm hm.l in0, oB_comm hm.r in0, oB_zero hm.l, oB_zero hm.r]
  rw [e, foldJ_joinL cs hc ⟨0, 0⟩ v00] at h
  exact h
theorem rstep_l1 (cs : List V) (hc : cs.length ≤ 4096) (at_ : V) (ha : RtV at_) (hcr : ∀ c ∈ cs, RtV c) (r : List V) (hs : vstrict r) (d : Nat) : ∀ (i : Nat) (l : List V) (m : V), RtV m → (∀ x ∈ l, RtV x) → l.length ≤ 4096 + i → (∀ w, w ∈ r ↔ (w ∈ l ∨ ∃ c ∈ cs.drop i, w = joinV at_ c)) → cs.length - i = d → i ≤ cs.length →
    Ev (fun k => ropewayref16_Step.l1 k l cs (cs.length : Int) (i : Int) at_.f0 at_.f1 m.f0 m.f1) (r, (foldJ m (cs.drop i)).f0, (foldJ m (cs.drop i)).f1) := by
  induction d with
  | zero =>
    intro i l m hm hl hll hmem hd hi
    refine Ev.succ ?_
    simp only [ropewayref16_Step.l1]
    rw [List.drop_eq_nil_of_le (by omega)] at hmem ⊢
    refine Ev.ite_neg (by omega) (Ev.bind (rsort_ev l (by omega) hl r hs fun w => ?_) (Ev.all fun k => rfl))
    rw [hmem]
    simp
  | succ d ih =>
    intro i l m hm hl hll hmem hd hi
    have hlt : i < cs.length := by omega
    have e : rd_T24 cs i = cs[i] := by show cs.getD i _ = _; rw [List.getD_eq_getElem?_getD, List.getElem?_eq_getElem hlt]; rfl
    have hcm := hcr cs[i] (List.getElem_mem hlt)
    rw [List.drop_eq_getElem_cons hlt] at hmem ⊢
    refine Ev.succ ?_
    simp only [ropewayref16_Step.l1]
    rw [e, wrap_nat (by omega)]
    generalize cs[i] = c at hmem hcm
    refine Ev.ite_pos (by omega) (Ev.ite_pos (by omega) (Ev.ite_pos (by omega) ?_))
    refine Ev.bind (ref_Join_two at_ c ha hcm) (Ev.ite_pos (by omega) (Ev.bind (ref_Join_two m c hm hcm) ?_))
    have hj := joinV_right ha hcm
    refine ih (i + 1) (l ++ [joinV at_ c]) (joinV m c) (joinV_right hm hcm) (fun x hx => ?_) (by rw [List.length_append, List.length_singleton]; omega) (fun w => ?_) (by omega) (by omega)
    · rcases List.mem_append.1 hx with h | h
      · exact hl x h
      · simp at h; subst h; exact hj
    · rw [hmem, List.mem_append, List.mem_singleton]
      constructor
      · rintro (h | ⟨x, hx, h⟩)
        · exact .inl (.inl h)
        · rcases List.mem_cons.1 hx with rfl | hx
          · exact .inl (.inr h)
          · exact .inr ⟨x, hx, h⟩
      · rintro ((h | h) | ⟨x, hx, h⟩)
        · exact .inl h
        · exact .inr ⟨c, List.mem_cons_self .., h⟩
        · exact .inr ⟨x, List.mem_cons_of_mem _ hx, h⟩
theorem rstep_l0 (cs : List V) (hc : cs.length ≤ 4096) (l l' : List V) (hl : l.length ≤ 4096) (hlr : ∀ x ∈ l, RtV x) (m : V) (hm : RtV m) (at_ : V) (ha : RtV at_) (hcr : ∀ c ∈ cs, RtV c) (r : List V) (hs : vstrict r) (hmem : ∀ w, w ∈ r ↔ (w ∈ unlike at_ l ∨ ∃ c ∈ cs, w = joinV at_ c)) (d : Nat) : ∀ (i : Nat), l.length - i = d → i ≤ l.length →
    Ev (fun k => ropewayref16_Step.l0 k cs (unlike at_ (l.take i)) l (l.length : Int) (i : Int) l' m.f0 m.f1 at_.f0 at_.f1) (r, (foldJ m cs).f0, (foldJ m cs).f1) := by
  induction d with
  | zero =>
    intro i hd hi
    refine Ev.succ ?_
    simp only [ropewayref16_Step.l0]
    refine Ev.ite_neg (by omega) ?_
    rw [List.take_of_length_le (by omega)]
    have h2 : (unlike at_ l).length ≤ l.length := List.length_filter_le _ _
    exact rstep_l1 cs hc at_ ha hcr r hs _ 0 (unlike at_ l) m hm (fun x hx => hlr x ((unlike_mem _ _ _).1 hx).1) (by omega) hmem rfl (by omega)
  | succ d ih =>
    intro i hd hi
    have hlt : i < l.length := by omega
    have h2 : (unlike at_ (l.take i)).length ≤ (l.take i).length := List.length_filter_le _ _
    rw [List.length_take] at h2
    have e : rd_T24 l i = l[i] := by show l.getD i _ = _; rw [List.getD_eq_getElem?_getD, List.getElem?_eq_getElem hlt]; rfl
    have htk : l.take (i + 1) = l.take i ++ [l[i]] := by rw [List.take_add_one, List.getElem?_eq_getElem hlt]; rfl
    have ih' := ih (i + 1) (by omega) (by omega)
    rw [htk] at ih'
    refine Ev.succ ?_
    simp only [ropewayref16_Step.l0]
    rw [e, wrap_nat (by omega)]
    generalize l[i] = v at ih'
    refine Ev.ite_pos (by omega) (Ev.ite_pos (by omega) (Ev.ite_pos (by omega) ?_))
    unfold unlike at ih' h2 ⊢
    rw [List.filter_append] at ih'
    by_cases h1 : (!(v.f0 == at_.f0) || (!(v.f1 == at_.f1))) = true
    · rw [List.filter_cons, if_pos h1] at ih'
      exact Ev.ite_pos h1 (Ev.ite_pos (by omega) ih')
    · rw [List.filter_cons, if_neg h1, List.filter_nil, List.append_nil] at ih'
      exact Ev.ite_neg h1 ih'
theorem rstep_ev (l cs : List V) (m at_ : V) (h0 : cs ≠ []) (hc : cs.length ≤ 4096) (hm : RtV m) (ha : RtV at_) (hcr : ∀ c ∈ cs, RtV c) (hls : vstrict l) (hlr : ∀ x ∈ l, RtV x) : Ev (fun k => ropewayref16_Step.f k l m.f0 m.f1 at_.f0 at_.f1 cs) (insAll at_ cs (unlike at_ l), (aimOf m cs).f0, (aimOf m cs).f1) := by
  unfold ropewayref16_Step.f
  have hp : 0 < cs.length := List.length_pos_iff.2 h0
  refine Ev.ite_neg (by omega) ?_
  rw [← foldJ_aim cs hcr m hm]
  have hu : ∀ x ∈ unlike at_ l, RtV x := fun x hx => hlr x ((unlike_mem _ _ _).1 hx).1
  have := rstep_l0 cs hc l l (right_len hls hlr) hlr m hm at_ ha hcr (insAll at_ cs (unlike at_ l)) (insAll_strict ha hcr hu (unlike_strict hls)) (fun w => insAll_mem _ _ _ _) l.length 0 (by omega) (by omega)
  exact this
theorem rleast_l0 (x : V) (l : List V) (hn : (x :: l).length ≤ 4096) (hr : ∀ v ∈ x :: l, RtV v) (hs : vstrict (x :: l)) (d : Nat) : ∀ (i : Nat), (x :: l).length - i = d → i ≤ (x :: l).length → 0 < i →
    Ev (fun k => ropewayref16_Least.l0 k (x :: l) ((x :: l).length : Int) (i : Int) x.f0 x.f1) (x.f0, x.f1) := by
  have hp := (List.pairwise_cons.1 hs).1
  have hx := hr x (List.mem_cons_self ..)
  generalize hL : x :: l = L at hn hr hs
  have hsl : ∀ v ∈ L, vlt v x = false := by
    subst hL
    intro v hv
    rcases List.mem_cons.1 hv with rfl | hv
    · exact vl_irrefl _
    · exact vl_asymm (hp v hv)
  induction d with
  | zero =>
    intro i hd hi _
    refine Ev.const fun k => ?_
    simp only [ropewayref16_Least.l0]
    rw [if_neg (by omega)]
  | succ d ih =>
    intro i hd hi h0
    have hlt : i < L.length := by omega
    have e : rd_T24 L i = L[i] := by show L.getD i _ = _; rw [List.getD_eq_getElem?_getD, List.getElem?_eq_getElem hlt]; rfl
    refine Ev.succ ?_
    simp only [ropewayref16_Least.l0]
    rw [e, wrap_nat (by omega)]
    refine Ev.ite_pos (by omega) (Ev.ite_pos (by omega) (Ev.ite_pos (by omega) (Ev.ite_neg (by omega) ?_)))
    refine Ev.bind (ref_Less_ev (hr _ (List.getElem_mem hlt)) hx) ?_
    rw [hsl _ (List.getElem_mem hlt)]
    exact Ev.ite_neg (by simp) (ih (i + 1) (by omega) (by omega) (by omega))
theorem rleast_ev (x : V) (l : List V) (a b : Int) (hn : (x :: l).length ≤ 4096) (hr : ∀ v ∈ x :: l, RtV v) (hs : vstrict (x :: l)) : Ev (fun k => ropewayref16_Least.f k (x :: l) a b) (x.f0, x.f1) := by
  unfold ropewayref16_Least.f
  refine Ev.succ ?_
  simp only [ropewayref16_Least.l0]
  refine Ev.ite_pos (by rw [List.length_cons]; omega) (Ev.ite_pos (by omega) (Ev.ite_pos (by rw [List.length_cons]; omega) (Ev.ite_pos (by simp) ?_)))
  rw [show wrap64 (0 + 1) = ((1 : Nat) : Int) by unfold wrap64; omega, show rd_T24 (x :: l) 0 = x from rfl]
  exact rleast_l0 x l hn hr hs l.length 1 (by rw [List.length_cons]; omega) (by rw [List.length_cons]; omega) (by omega)

/-! a step, whatever is changed -/
theorem least_some {x : V} {l : List V} (a b : Int) : front_Least.f (x :: l) a b = some (x.f0, x.f1) := by
  unfold front_Least.f
  rw [if_neg (by rw [List.length_cons]; omega), if_pos (by rw [List.length_cons]; omega)]
  rfl
theorem step_any {l : List V} {aim : V} (hf : FInv l aim) {x : V} (hxl : x ∈ l) {cs : List V} (h0 : cs ≠ []) (hc : ∀ c ∈ cs, RtV c) :
    FInv (insAll x cs (unlike x l)) (aimOf aim cs) := by
  obtain ⟨_, hs, hm, ha⟩ := hf
  obtain ⟨hx, hxa⟩ := hm x hxl
  obtain ⟨har, haw, hac⟩ := aim_facts ha hc
  have hr : ∀ w ∈ l, RtV w := fun w hw => (hm w hw).1
  have hu : ∀ w ∈ unlike x l, RtV w := fun w hw => hr w ((unlike_mem _ _ _).1 hw).1
  refine ⟨fun e => ?_, insAll_strict hx hc hu (unlike_strict hs), fun w hw => ⟨insAll_right hx hc hu w hw, ?_⟩, har⟩
  · obtain ⟨c, cs', rfl⟩ := List.exists_cons_of_ne_nil h0
    have := (insAll_mem x (c :: cs') (unlike x l) (joinV x c)).2 (.inr ⟨c, List.mem_cons_self .., rfl⟩)
    rw [e] at this
    simp at this
  · rcases (insAll_mem x cs _ w).1 hw with h | ⟨c, h, rfl⟩
    · have := hm w ((unlike_mem _ _ _).1 h).1
      exact wiP_trans this.1 ha har this.2 haw
    · exact wi_join hx (hc c h) har (wiP_trans hx ha har hxa haw) (hac c h)
def nextL (x : V) (cs l : List V) : List V := if cs = [] then l else insAll x cs (unlike x l)
def nextA (aim : V) (cs : List V) : V := if cs = [] then aim else aimOf aim cs
theorem next_inv {l : List V} {aim : V} (hf : FInv l aim) {x : V} (hxl : x ∈ l) {cs : List V} (hc : ∀ c ∈ cs, RtV c) : FInv (nextL x cs l) (nextA aim cs) := by
  unfold nextL nextA
  by_cases h0 : cs = []
  · rw [if_pos h0, if_pos h0]; exact hf
  · rw [if_neg h0, if_neg h0]; exact step_any hf hxl h0 hc
theorem fstep_ev {l : List V} {aim : V} (hf : FInv l aim) {x : V} (hxl : x ∈ l) {cs : List V} (hl : cs.length ≤ 4096) (hc : ∀ c ∈ cs, RtV c) : Ev (fun k => front_Step.f k l aim.f0 aim.f1 x.f0 x.f1 cs) (nextL x cs l, (nextA aim cs).f0, (nextA aim cs).f1) := by
  have hr : ∀ v ∈ l, RtV v := fun v hv => (hf.2.2.1 v hv).1
  unfold nextL nextA
  by_cases h0 : cs = []
  · rw [if_pos h0, if_pos h0]
    subst h0
    have hlen := right_len hf.2.1 hr
    unfold front_Step.f
    refine Ev.ite_pos rfl (Ev.bind_all (show api_View_26.f l = some l from ?_) (Ev.all fun k => rfl))
    unfold api_View_26.f
    have hb : l.length < 8796093022208 := by omega
    simp only [List.nil_append, List.length_nil, Nat.zero_add, Option.bind_some]
    rw [if_pos hb]
  · rw [if_neg h0, if_neg h0]
    exact step_ev l cs aim.f0 aim.f1 x h0 (by omega) (hr x hxl) hc hf.2.1 hr

theorem rstep_next {l : List V} {aim : V} (hf : FInv l aim) {x : V} (hxl : x ∈ l) {cs : List V} (hl : cs.length ≤ 4096) (hc : ∀ c ∈ cs, RtV c) : Ev (fun k => ropewayref16_Step.f k l aim.f0 aim.f1 x.f0 x.f1 cs) (nextL x cs l, (nextA aim cs).f0, (nextA aim cs).f1) := by
  have hr : ∀ v ∈ l, RtV v := fun v hv => (hf.2.2.1 v hv).1
  unfold nextL nextA
  by_cases h0 : cs = []
  · rw [if_pos h0, if_pos h0]
    subst h0
    unfold ropewayref16_Step.f
    exact Ev.ite_pos rfl (Ev.all fun k => rfl)
  · rw [if_neg h0, if_neg h0]
    exact rstep_ev l cs aim x h0 hl hf.2.2.2 (hr x hxl) hc hf.2.1 hr
theorem steps_l0 (xs : List A) (hn : xs.length ≤ 30) (d : Nat) : ∀ (i : Nat) (l : List V) (aim : V), xs.length - i = d → i ≤ xs.length → FInv l aim →
    Ev (fun k => ropewaylaw16_FrontSteps.l0 k xs (xs.length : Int) (i : Int) l aim.f0 aim.f1 l aim.f0 aim.f1) true := by
  induction d with
  | zero =>
    intro i l aim hd hi _
    refine Ev.const fun k => ?_
    simp only [ropewaylaw16_FrontSteps.l0]
    rw [if_neg (by omega)]
  | succ d ih =>
    intro i l aim hd hi hf
    have hlt : i < xs.length := by omega
    have e : rd_T37 xs i = xs[i] := by show xs.getD i _ = _; rw [List.getD_eq_getElem?_getD, List.getElem?_eq_getElem hlt]; rfl
    refine Ev.succ ?_
    simp only [ropewaylaw16_FrontSteps.l0]
    refine Ev.ite_pos (by omega) (Ev.ite_pos (by omega) (Ev.ite_pos (by omega) ?_))
    rw [e]
    generalize xs[i] = a
    have jt : Ev (fun k => ropewaylaw16_FrontSteps.j2 k xs (xs.length : Int) (i : Int) true l aim.f0 aim.f1 l aim.f0 aim.f1 a.f0 a.f1) true := Ev.const fun k => by simp only [ropewaylaw16_FrontSteps.j2]; rfl
    refine Ev.ite (fun _ => jt) fun hN => Ev.ite (fun _ => jt) fun hL => ?_
    refine Ev.bind (right_ev _ (by omega)) ?_
    by_cases hr : a.f1.all rtB = true
    rotate_left
    · rw [Bool.eq_false_iff.2 hr]; exact jt
    rw [hr]
    have hc : ∀ c ∈ a.f1, RtV c := fun c h => (rtB_iff c).1 (List.all_eq_true.1 hr c h)
    have hvr : ∀ v ∈ l, RtV v := fun v hv => (hf.2.2.1 v hv).1
    have hlen := right_len hf.2.1 hvr
    have hpos : 0 < l.length := List.length_pos_iff.2 hf.1
    obtain ⟨n, hnn⟩ := Int.eq_ofNat_of_zero_le (Int.tmod_nonneg (l.length : Int) (show 0 ≤ a.f0 by omega))
    have hlt2 := Int.tmod_lt_of_pos a.f0 (show (0 : Int) < (l.length : Int) by omega)
    refine Ev.succ ?_
    simp only [ropewaylaw16_FrontSteps.j2, Bool.not_true]
    rw [hnn] at hlt2 ⊢
    have hnl : n < l.length := by omega
    have e2 : rd_T24 l n = l[n] := by show l.getD n _ = _; rw [List.getD_eq_getElem?_getD, List.getElem?_eq_getElem hnl]; rfl
    rw [e2]
    have hxl : l[n] ∈ l := List.getElem_mem hnl
    generalize l[n] = x at hxl
    have hb : a.f1.length < 8796093022208 := by omega
    simp only [List.nil_append, List.length_nil, Nat.zero_add, Option.bind_some]
    refine Ev.ite_neg (by simp) (Ev.ite_neg (by omega) (Ev.ite_pos (by omega) (Ev.ite_pos (by omega) (Ev.ite_pos hb ?_))))
    refine Ev.bind (fstep_ev hf hxl (by omega) hc) (Ev.bind (vsame_ev l (by omega)) (Ev.ite_pos rfl (Ev.ite_neg (by simp) (Ev.bind (vsame_ev a.f1 (by omega)) ?_))))
    have hf' := next_inv hf hxl hc
    have hrs := rstep_next hf hxl (show a.f1.length ≤ 4096 by omega) hc
    generalize nextL x a.f1 l = l' at hf' hrs ⊢
    generalize nextA aim a.f1 = aim' at hf' hrs ⊢
    have hvr' : ∀ v ∈ l', RtV v := fun v hv => (hf'.2.2.1 v hv).1
    have hlen' := right_len hf'.2.1 hvr'
    refine Ev.succ ?_
    simp only [ropewaylaw16_FrontSteps.j3, Bool.not_true]
    refine Ev.ite_neg (by simp) (Ev.bind hrs ?_)
    cases l' with
    | nil => exact absurd rfl hf'.1
    | cons y l' =>
      have hy := hvr' y (List.mem_cons_self ..)
      have ha' := hf'.2.2.2
      refine Ev.bind (rleast_ev y l' _ _ hlen' hvr' hf'.2.1) (Ev.bind (vsame_ev _ (by omega)) (Ev.ite_pos rfl (Ev.ite_neg (by simp) (Ev.bind_all (least_some _ _) (Ev.ite_neg (by simp) ?_)))))
      refine Ev.bind_all (show front_Ends.f (y :: l') aim'.f0 aim'.f1 y.f0 y.f1 = some (y.f0 == aim'.f0 && (y.f1 == aim'.f1)) from rfl) (Ev.ite_neg (by simp) ?_)
      refine Ev.bind_all (show front_Want.f (y :: l') aim'.f0 aim'.f1 y.f0 y.f1 = some (aB aim'.f0 y.f0, aB aim'.f1 y.f1) from rfl) ?_
      refine Ev.bind (ref_Minus_ev ha' hy) (Ev.ite_neg (by simp) ?_)
      rw [wrap_nat (by omega)]
      exact ih (i + 1) (y :: l') aim' (by omega) (by omega) hf'
theorem FrontSteps : ropewaylaw16_FrontSteps.Pure := by
  intro a0 a1 b0 b1 xs _ _ _ _ _
  have alive : Ev (fun k => ropewaylaw16_frontAlive.f k) true := Ev.closed ropewaylaw16_frontAlive.mono 60 (by decide +kernel)
  have jt : Ev (fun k => ropewaylaw16_FrontSteps.j0 k xs true a0 a1 b0 b1) true := Ev.const fun k => by simp only [ropewaylaw16_FrontSteps.j0]; rfl
  have hall : Ev (fun k => ropewaylaw16_FrontSteps.f k a0 a1 b0 b1 xs) true := by
    unfold ropewaylaw16_FrontSteps.f
    refine Ev.bind alive (Ev.ite_pos rfl ?_)
    refine Ev.ite (fun _ => jt) fun hn => ?_
    refine Ev.bind (right_ev _ (by simp)) ?_
    by_cases hr : [(⟨a0, a1⟩ : V), ⟨b0, b1⟩].all rtB = true
    rotate_left
    · rw [Bool.eq_false_iff.2 hr]; exact jt
    rw [hr]
    refine Ev.succ ?_
    simp only [ropewaylaw16_FrontSteps.j0]
    refine Ev.ite_neg (by simp) ?_
    simp only [List.all_cons, List.all_nil, Bool.and_true, Bool.and_eq_true] at hr
    have ha := (rtB_iff _).1 hr.1
    have hb := (rtB_iff _).1 hr.2
    have hj : Ev (fun k => front_New.f k a0 a1 b0 b1) ([(⟨a0, a1⟩ : V)], (joinV ⟨a0, a1⟩ ⟨b0, b1⟩).f0, (joinV ⟨a0, a1⟩ ⟨b0, b1⟩).f1) := by
      unfold front_New.f
      exact Ev.bind (change_Join_ev _ (by simp)) (Ev.all fun k => rfl)
    have hj2 : Ev (fun k => ropewayref16_New.f k a0 a1 b0 b1) ([(⟨a0, a1⟩ : V)], (joinV ⟨a0, a1⟩ ⟨b0, b1⟩).f0, (joinV ⟨a0, a1⟩ ⟨b0, b1⟩).f1) := by
      unfold ropewayref16_New.f
      exact Ev.bind (ref_Join_two ⟨a0, a1⟩ ⟨b0, b1⟩ ha hb) (Ev.all fun k => rfl)
    refine Ev.bind hj (Ev.bind hj2 ?_)
    refine steps_l0 xs (by omega) xs.length 0 _ (joinV ⟨a0, a1⟩ ⟨b0, b1⟩) (by omega) (by omega) ⟨by simp, by simp [vstrict], fun v hv => ?_, joinV_right ha hb⟩
    simp at hv
    subst hv
    exact ⟨ha, wi_left ha hb⟩
  exact hall.rounds

end Go.Proofs.Ytjfmhahlmnnacaa.Pure
