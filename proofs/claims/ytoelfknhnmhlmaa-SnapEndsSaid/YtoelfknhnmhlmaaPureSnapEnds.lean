/- The pure statement of the law SnapEnds: without the document's answer: an update has just two rounds, a scan one, three or four; what is put was told, or is one's own. -/
import Derived.Test.YtoelfknhnmhlmaaPSnapEndsx
import Derived.Test.YtoelfknhnmhlmaaSSnapEndsXPure
import Derived.Test.YtoelfknhnmhlmaaSSnapEndsXOpen
namespace Go.Proofs.Ytoelfknhnmhlmaa.Pure
open Go.RowKit Go.Proofs.Ytoelfknhnmhlmaa.PSnapEnds Go.Proofs.YtoelfknhnmhlmaaW.PrintWords Go.Proofs.YtoelfknhnmhlmaaW.PrintLast Go.Proofs.YtoelfknhnmhlmaaW.PrintMore Go.Proofs.YtoelfknhnmhlmaaX
set_option linter.unusedVariables false
set_option linter.unusedSimpArgs false
abbrev C := S34
theorem ref_Right_eq (a d : Int) : ropewayref04_Right.f a d = some (decide (0 ≤ a ∧ a < 64 ∧ 0 ≤ d ∧ d < 64)) := by
  unfold ropewayref04_Right.f
  by_cases h1 : a ≥ 0
  · rw [if_pos h1]
    by_cases h2 : a ≤ 63
    · rw [if_pos h2]
      by_cases h3 : d ≥ 0
      · rw [if_pos h3, Option.some.injEq, decide_eq_decide]; omega
      · rw [if_neg h3, decide_eq_false (by omega)]
    · rw [if_neg h2, decide_eq_false (by omega)]
  · rw [if_neg h1, decide_eq_false (by omega)]

theorem same_l0 (xs : List C) (hn : xs.length < 4611686018427387904) (d : Nat) : ∀ (i : Nat), xs.length - i = d → i ≤ xs.length →
    Ev (fun k => ropewayref10_Same.l0 k xs xs (xs.length : Int) (i : Int)) true := by
  induction d with
  | zero =>
    intro i hd hi
    refine Ev.const fun k => ?_
    simp only [ropewayref10_Same.l0]
    rw [if_neg (by omega)]
  | succ d ih =>
    intro i hd hi
    refine Ev.succ ?_
    simp only [ropewayref10_Same.l0]
    refine Ev.ite_pos (by omega) (Ev.ite_pos (by omega) (Ev.ite_pos (by omega) (Ev.ite_pos (by omega) (Ev.ite_neg (by simp) ?_))))
    rw [wrap_nat (by omega)]
    exact ih (i + 1) (by omega) (by omega)
theorem same_ev (xs : List C) (hn : xs.length < 4611686018427387904) : Ev (fun k => ropewayref10_Same.f k xs xs) true := by
  unfold ropewayref10_Same.f
  exact Ev.ite_pos rfl (same_l0 xs hn xs.length 0 (by omega) (by omega))
theorem same_of {xs ys : List C} (h : xs = ys) (hn : xs.length < 4611686018427387904) : Ev (fun k => ropewayref10_Same.f k xs ys) true := by subst h; exact same_ev xs hn

theorem clone_eq {l : List C} (h : l.length < 5864062014805) : api_Cell.f l = some l := by
  unfold api_Cell.f
  simp [h]
theorem check_ex (xs : List C) (hn : xs.length < 4611686018427387904) : ∃ c : Int, Ev (fun k => ropewayref10_Check.f k xs) c := by
  have loop : ∀ (d i : Nat), xs.length - i = d → i ≤ xs.length → ∃ c : Int, Ev (fun k => ropewayref10_Check.l0 k xs xs (xs.length : Int) (i : Int)) c := by
    intro d
    induction d with
    | zero =>
      intro i hd hi
      refine ⟨0, Ev.const fun k => ?_⟩
      simp only [ropewayref10_Check.l0]
      rw [if_neg (by omega)]
    | succ d ih =>
      intro i hd hi
      have hlt : i < xs.length := by omega
      obtain ⟨c, hc⟩ := ih (i + 1) (by omega) (by omega)
      have jb : ∀ b : Bool, ∃ c : Int, Ev (fun k => ropewayref10_Check.j1 k xs xs (xs.length : Int) (i : Int) b) c := by
        intro b
        cases b with
        | true => exact ⟨101, Ev.const fun k => by simp only [ropewayref10_Check.j1]; rfl⟩
        | false =>
          refine ⟨c, Ev.succ ?_⟩
          simp only [ropewayref10_Check.j1]
          rw [wrap_nat (by omega)]
          exact Ev.ite_neg (by simp) hc
      have main : ∃ c : Int, Ev (fun k => ropewayref10_Check.l0 (k + 1) xs xs (xs.length : Int) (i : Int)) c := by
        simp only [ropewayref10_Check.l0]
        generalize rd_T34 xs (i : Int) = x
        have lift : ∀ {g : Nat → Option Int}, (∃ c : Int, Ev g c) → ∃ c : Int, Ev (fun k => if (i : Int) < (xs.length : Int) then (if 0 ≤ (i : Int) then (if (i : Int) < (xs.length : Int) then g k else none) else none) else some 0) c := fun ⟨c, h⟩ => ⟨c, Ev.ite_pos (by omega) (Ev.ite_pos (by omega) (Ev.ite_pos (by omega) h))⟩
        refine lift ?_
        by_cases h1 : x.f0 < 0
        · obtain ⟨c, h⟩ := jb true; exact ⟨c, Ev.ite_pos h1 h⟩
        by_cases h2 : x.f0 > 5
        · obtain ⟨c, h⟩ := jb true; exact ⟨c, Ev.ite_neg h1 (Ev.ite_pos h2 h)⟩
        by_cases h3 : decide (0 ≤ x.f1.f0 ∧ x.f1.f0 < 64 ∧ 0 ≤ x.f1.f1 ∧ x.f1.f1 < 64) = true
        rotate_left
        · obtain ⟨c, h⟩ := jb true; exact ⟨c, Ev.ite_neg h1 (Ev.ite_neg h2 (Ev.bind_all (ref_Right_eq _ _) (Ev.ite_neg h3 h)))⟩
        by_cases h4 : (x.f1.f0 == 0 && (x.f1.f1 == 0)) = true
        · obtain ⟨c, h⟩ := jb true; exact ⟨c, Ev.ite_neg h1 (Ev.ite_neg h2 (Ev.bind_all (ref_Right_eq _ _) (Ev.ite_pos h3 (Ev.ite_pos h4 h))))⟩
        by_cases h5 : (i : Int) > 0
        · have w : wrap64 ((i : Int) - 1) = (i : Int) - 1 := wrap_in (by omega) (by omega)
          rw [w]
          obtain ⟨c, h⟩ := jb (decide ((rd_T34 xs ((i : Int) - 1)).f0 ≥ x.f0))
          exact ⟨c, Ev.ite_neg h1 (Ev.ite_neg h2 (Ev.bind_all (ref_Right_eq _ _) (Ev.ite_pos h3 (Ev.ite_neg h4 (Ev.ite_pos h5 (Ev.ite_pos (by omega) (Ev.ite_pos (by omega) h)))))))⟩
        · obtain ⟨c, h⟩ := jb false; exact ⟨c, Ev.ite_neg h1 (Ev.ite_neg h2 (Ev.bind_all (ref_Right_eq _ _) (Ev.ite_pos h3 (Ev.ite_neg h4 (Ev.ite_neg h5 h)))))⟩
      obtain ⟨c, h⟩ := main
      exact ⟨c, Ev.succ h⟩
  exact loop xs.length 0 (by omega) (by omega)
theorem w1 : wrap64 (0 + 1) = 1 := by decide +kernel
theorem w2 : wrap64 (1 + 1) = 2 := by decide +kernel
theorem w3 : wrap64 (2 + 1) = 3 := by decide +kernel
theorem w4 : wrap64 (3 + 1) = 4 := by decide +kernel
theorem over_j5 {xs : List (List C)} (i : Int) (hi : i = 1 ∨ i = 3 ∨ i = 4) (st : List C) : Ev (fun k => ropewaylaw15_SnapEnds_f.j5 k xs i 4 st) true := by
  refine Ev.succ ?_
  simp only [ropewaylaw15_SnapEnds_f.j5]
  refine Ev.ite_pos (by first | trivial | rfl) (Ev.const fun k => ?_)
  simp only [ropewaylaw15_SnapEnds_f.j6]
  rw [if_neg (by simp)]
  rcases hi with rfl | rfl | rfl <;> rfl
theorem end_j5 {xs : List (List C)} (i s : Int) (hi : (xs.length : Int) = i) (h4 : i < 4) (hs : s ≠ 4) {st : List C} (hst : st.length < 5864062014805) : Ev (fun k => ropewaylaw15_SnapEnds_f.j5 k xs i s st) true := by
  have j6 : Ev (fun k => ropewaylaw15_SnapEnds_f.j6 k xs i true) true := by
    refine Ev.const fun k => ?_
    simp only [ropewaylaw15_SnapEnds_f.j6]
    simp [hi, h4]
  refine Ev.succ ?_
  simp only [ropewaylaw15_SnapEnds_f.j5]
  refine Ev.ite_neg hs (Ev.ite (fun _ => j6) fun _ => Ev.ite (fun _ => j6) fun _ => Ev.ite (fun _ => ?_) fun _ => ?_)
  · exact Ev.bind_all (clone_eq hst) j6
  · exact Ev.bind_all (clone_eq hst) j6
theorem overt_j5 {xs : List (List C)} (m st : List C) : Ev (fun k => ropewaylaw15_SnapEnds_t.j5 k xs 2 m 4 st) true := by
  refine Ev.succ ?_
  simp only [ropewaylaw15_SnapEnds_t.j5]
  refine Ev.ite_pos (by first | trivial | rfl) (Ev.const fun k => ?_)
  simp only [ropewaylaw15_SnapEnds_t.j6]
  rfl
theorem endt_j5 {xs : List (List C)} (i s : Int) (hi : (xs.length : Int) = i) (h4 : i < 4) (hs : s ≠ 4) {m st : List C} (hm : m.length = 1) (hst : st.length < 5864062014805) : Ev (fun k => ropewaylaw15_SnapEnds_t.j5 k xs i m s st) true := by
  have j6 : Ev (fun k => ropewaylaw15_SnapEnds_t.j6 k xs i true) true := by
    refine Ev.const fun k => ?_
    simp only [ropewaylaw15_SnapEnds_t.j6]
    simp [hi, h4]
  refine Ev.succ ?_
  simp only [ropewaylaw15_SnapEnds_t.j5]
  refine Ev.ite_neg hs (Ev.ite (fun _ => j6) fun _ => Ev.ite (fun _ => j6) fun _ => Ev.ite (fun _ => ?_) fun _ => ?_)
  · exact Ev.ite_pos (by omega) (Ev.ite (fun _ => Ev.bind_all (clone_eq (by omega)) j6) fun _ => Ev.bind_all (clone_eq hst) j6)
  · exact Ev.bind_all (clone_eq hst) j6
section
variable {xs : List (List C)} (hb : ∀ l ∈ xs, l.length < 5864062014805)
include hb
theorem rdb (i : Int) : (rd_L3 xs i).length < 5864062014805 := by
  show (xs.getD i.toNat []).length < _
  by_cases h : i.toNat < xs.length
  · exact hb _ (getD_mem h [])
  · rw [List.getD_eq_getElem?_getD, List.getElem?_eq_none (by omega)]
    show ([] : List C).length < _
    simp
theorem chk_ex (i : Int) : ∃ c : Int, Ev (fun k => ropewayref10_Check.f k (rd_L3 xs i)) c := check_ex _ (by have := rdb hb i; omega)
/-! a scan -/
theorem over_f (i : Int) (hi : i = 1 ∨ i = 3 ∨ i = 4) (told st : List C) : Ev (fun k => ropewaylaw15_SnapEnds_f.l0 k xs i told xs (xs.length : Int) i 4 st) true := by
  refine Ev.succ ?_
  simp only [ropewaylaw15_SnapEnds_f.l0]
  obtain ⟨c, hc⟩ := chk_ex hb i
  refine Ev.ite (fun h1 => Ev.ite_pos (by omega) (Ev.ite_pos h1 (Ev.bind hc (Ev.ite (fun h2 => ?_) fun _ => Ev.all fun k => rfl)))) (fun _ => over_j5 i hi st)
  refine Ev.ite_pos (by first | trivial | rfl) (Ev.succ ?_)
  simp only [ropewaylaw15_SnapEnds_f.j2]
  exact Ev.ite_neg (by simp) (over_j5 i hi st)
theorem loop_f3 {st : List C} (hst : st.length < 5864062014805) (hne : st ≠ []) (h3 : 3 ≤ xs.length) : Ev (fun k => ropewaylaw15_SnapEnds_f.l0 k xs 3 st xs (xs.length : Int) 3 3 st) true := by
  have hp : 0 < st.length := List.length_pos_iff.2 hne
  refine Ev.succ ?_
  simp only [ropewaylaw15_SnapEnds_f.l0]
  obtain ⟨c, hc⟩ := chk_ex hb 3
  have hl := rdb hb 3
  refine Ev.ite (fun h1 => Ev.ite_pos (by omega) (Ev.ite_pos h1 (Ev.bind hc (Ev.ite (fun h2 => ?_) fun _ => Ev.all fun k => rfl)))) (fun _ => end_j5 3 3 (by omega) (by omega) (by omega) hst)
  generalize rd_L3 xs 3 = x at hl
  refine Ev.ite_neg (by omega) (Ev.ite_neg (by omega) (Ev.ite_neg (by omega) (Ev.ite_neg (by omega) (Ev.bind_all (clone_eq hst) (Ev.succ ?_)))))
  simp only [ropewaylaw15_SnapEnds_f.j2]
  refine Ev.ite_pos (by first | trivial | rfl) (Ev.ite_pos (by first | trivial | rfl) (Ev.ite_pos (by omega) (Ev.bind (same_ev st (by omega)) (Ev.ite_pos (by first | trivial | rfl) (Ev.ite_neg (by omega) (Ev.succ ?_))))))
  simp only [ropewaylaw15_SnapEnds_f.j3]
  refine Ev.ite_neg (by simp) (Ev.ite_neg (by omega) (Ev.succ ?_))
  simp only [ropewaylaw15_SnapEnds_f.j4, Option.bind_some, List.nil_append, List.length_nil, Nat.zero_add, w4]
  exact Ev.ite_pos hl (Ev.ite_neg (by omega) (Ev.ite_neg (by omega) (Ev.ite_neg (by omega) (Ev.ite_pos (by first | trivial | rfl) (over_f hb 4 (by omega) _ _)))))
theorem loop_f2 {told st : List C} (hst : st.length < 5864062014805) (h3 : 2 ≤ xs.length) : Ev (fun k => ropewaylaw15_SnapEnds_f.l0 k xs 2 told xs (xs.length : Int) 2 2 st) true := by
  refine Ev.succ ?_
  simp only [ropewaylaw15_SnapEnds_f.l0]
  obtain ⟨c, hc⟩ := chk_ex hb 2
  have hl := rdb hb 2
  refine Ev.ite (fun h1 => Ev.ite_pos (by omega) (Ev.ite_pos h1 (Ev.bind hc (Ev.ite (fun h2 => ?_) fun _ => Ev.all fun k => rfl)))) (fun _ => end_j5 2 2 (by omega) (by omega) (by omega) hst)
  generalize rd_L3 xs 2 = x at hl
  refine Ev.ite_neg (by omega) (Ev.ite_neg (by omega) (Ev.ite_pos (by first | trivial | rfl) (Ev.succ ?_)))
  simp only [ropewaylaw15_SnapEnds_f.j2]
  refine Ev.ite_pos (by first | trivial | rfl) (Ev.ite_neg (by omega) (Ev.succ ?_))
  simp only [ropewaylaw15_SnapEnds_f.j3]
  refine Ev.ite_neg (by simp) (Ev.ite_pos (by first | trivial | rfl) (Ev.succ ?_))
  simp only [ropewaylaw15_SnapEnds_f.j4, Option.bind_some, List.nil_append, List.length_nil, Nat.zero_add, w3]
  refine Ev.ite_pos hl (Ev.ite_neg (by omega) (Ev.ite_pos (by first | trivial | rfl) (Ev.bind_all (clone_eq hl) (Ev.ite (fun _ => over_f hb 3 (by omega) _ _) fun hne => ?_))))
  exact loop_f3 hb hl (fun e => hne (by rw [e]; rfl)) (by omega)
theorem loop_f1 {st : List C} (hst : st.length < 5864062014805) (hne : st ≠ []) (h3 : 1 ≤ xs.length) : Ev (fun k => ropewaylaw15_SnapEnds_f.l0 k xs 1 st xs (xs.length : Int) 1 1 st) true := by
  have hp : 0 < st.length := List.length_pos_iff.2 hne
  refine Ev.succ ?_
  simp only [ropewaylaw15_SnapEnds_f.l0]
  obtain ⟨c, hc⟩ := chk_ex hb 1
  have hl := rdb hb 1
  refine Ev.ite (fun h1 => Ev.ite_pos (by omega) (Ev.ite_pos h1 (Ev.bind hc (Ev.ite (fun h2 => ?_) fun _ => Ev.all fun k => rfl)))) (fun _ => end_j5 1 1 (by omega) (by omega) (by omega) hst)
  generalize rd_L3 xs 1 = x at hl
  refine Ev.ite_neg (by omega) (Ev.ite_neg (by omega) (Ev.ite_neg (by omega) (Ev.ite_pos (by first | trivial | rfl) (Ev.bind_all (clone_eq hst) (Ev.succ ?_)))))
  simp only [ropewaylaw15_SnapEnds_f.j2]
  refine Ev.ite_pos (by first | trivial | rfl) (Ev.ite_pos (by first | trivial | rfl) (Ev.ite_pos (by omega) (Ev.bind (same_ev st (by omega)) (Ev.ite_pos (by first | trivial | rfl) (Ev.ite_neg (by omega) (Ev.succ ?_))))))
  simp only [ropewaylaw15_SnapEnds_f.j3]
  refine Ev.ite_neg (by simp) (Ev.ite_neg (by omega) (Ev.succ ?_))
  simp only [ropewaylaw15_SnapEnds_f.j4, Option.bind_some, List.nil_append, List.length_nil, Nat.zero_add, w2]
  exact Ev.ite_pos hl (Ev.ite_neg (by omega) (Ev.ite_neg (by omega) (Ev.ite_pos (by first | trivial | rfl) (loop_f2 hb hst (by omega)))))
theorem loop_f0 : Ev (fun k => ropewaylaw15_SnapEnds_f.l0 k xs 0 [] xs (xs.length : Int) 0 0 []) true := by
  refine Ev.succ ?_
  simp only [ropewaylaw15_SnapEnds_f.l0]
  obtain ⟨c, hc⟩ := chk_ex hb 0
  have hl := rdb hb 0
  refine Ev.ite (fun h1 => Ev.ite_pos (by omega) (Ev.ite_pos h1 (Ev.bind hc (Ev.ite (fun h2 => ?_) fun _ => Ev.all fun k => rfl)))) (fun _ => end_j5 0 0 (by omega) (by omega) (by omega) (by simp))
  generalize rd_L3 xs 0 = x at hl
  refine Ev.ite_neg (by omega) (Ev.ite_pos (by first | trivial | rfl) (Ev.succ ?_))
  simp only [ropewaylaw15_SnapEnds_f.j2]
  refine Ev.ite_pos (by first | trivial | rfl) (Ev.ite_neg (by omega) (Ev.succ ?_))
  simp only [ropewaylaw15_SnapEnds_f.j3]
  refine Ev.ite_neg (by simp) (Ev.ite_pos (by first | trivial | rfl) (Ev.succ ?_))
  simp only [ropewaylaw15_SnapEnds_f.j4, Option.bind_some, List.nil_append, List.length_nil, Nat.zero_add, w1]
  refine Ev.ite_pos hl (Ev.ite_pos (by first | trivial | rfl) (Ev.bind_all (clone_eq hl) (Ev.ite (fun _ => over_f hb 1 (by omega) _ _) fun hne => ?_)))
  exact loop_f1 hb hl (fun e => hne (by rw [e]; rfl)) (by omega)
/-! an update -/
variable (a b c : Int)
theorem over_t (told m st : List C) : Ev (fun k => ropewaylaw15_SnapEnds_t.l0 k xs 2 told xs (xs.length : Int) 2 a b c m 4 st) true := by
  refine Ev.succ ?_
  simp only [ropewaylaw15_SnapEnds_t.l0]
  obtain ⟨q, hq⟩ := chk_ex hb 2
  refine Ev.ite (fun h1 => Ev.ite_pos (by omega) (Ev.ite_pos h1 (Ev.bind hq (Ev.ite (fun h2 => ?_) fun _ => Ev.all fun k => rfl)))) (fun _ => overt_j5 m st)
  refine Ev.ite_pos (by first | trivial | rfl) (Ev.succ ?_)
  simp only [ropewaylaw15_SnapEnds_t.j2]
  exact Ev.ite_neg (by simp) (overt_j5 m st)
theorem loop_t1 {st : List C} (hst : st.length < 5864062014805) (h3 : 1 ≤ xs.length) : Ev (fun k => ropewaylaw15_SnapEnds_t.l0 k xs 1 st xs (xs.length : Int) 1 a b c [(⟨a, ⟨b, c⟩⟩ : C)] 1 st) true := by
  refine Ev.succ ?_
  simp only [ropewaylaw15_SnapEnds_t.l0]
  obtain ⟨q, hq⟩ := chk_ex hb 1
  have hl := rdb hb 1
  have hm : ([(⟨a, ⟨b, c⟩⟩ : C)] : List C).length = 1 := rfl
  refine Ev.ite (fun h1 => Ev.ite_pos (by omega) (Ev.ite_pos h1 (Ev.bind hq (Ev.ite (fun h2 => ?_) fun _ => Ev.all fun k => rfl)))) (fun _ => endt_j5 1 1 (by omega) (by omega) (by omega) hm hst)
  generalize rd_L3 xs 1 = x at hl
  have rest : ∀ told : List C, Ev (fun k => ropewaylaw15_SnapEnds_t.j3 k xs 1 told x 1 xs (xs.length : Int) 1 false a b c [(⟨a, ⟨b, c⟩⟩ : C)] 1 st) true := by
    intro told
    refine Ev.succ ?_
    simp only [ropewaylaw15_SnapEnds_t.j3]
    refine Ev.ite_neg (by simp) (Ev.ite_neg (by omega) (Ev.succ ?_))
    simp only [ropewaylaw15_SnapEnds_t.j4, Option.bind_some, List.nil_append, List.length_nil, Nat.zero_add, w2]
    exact Ev.ite_pos hl (Ev.ite_neg (by omega) (Ev.ite_neg (by omega) (Ev.ite_pos (by first | trivial | rfl) (Ev.ite_pos (by simp) (over_t hb a b c _ _ _)))))
  refine Ev.ite_neg (by omega) (Ev.ite_neg (by omega) (Ev.ite_neg (by omega) (Ev.ite_pos (by first | trivial | rfl) (Ev.ite_pos (by simp) (Ev.ite (fun h0 => ?_) fun h0 => ?_)))))
  · refine Ev.bind_all (clone_eq (by simp)) (Ev.succ ?_)
    simp only [ropewaylaw15_SnapEnds_t.j2]
    refine Ev.ite_pos (by first | trivial | rfl) (Ev.ite_pos (by first | trivial | rfl) (Ev.ite_neg (by omega) (Ev.ite_pos h0 (Ev.ite_pos (by simp) (Ev.ite_pos (by simp) ?_)))))
    have e : rd_T34 [(⟨a, ⟨b, c⟩⟩ : C)] 0 = ⟨a, ⟨b, c⟩⟩ := rfl
    rw [e]
    simpa using rest st
  · refine Ev.bind_all (clone_eq hst) (Ev.succ ?_)
    simp only [ropewaylaw15_SnapEnds_t.j2]
    exact Ev.ite_pos (by first | trivial | rfl) (Ev.ite_pos (by first | trivial | rfl) (Ev.ite_pos (by omega) (Ev.bind (same_ev st (by omega)) (Ev.ite_pos (by first | trivial | rfl) (Ev.ite_neg h0 (rest st))))))
theorem loop_t0 : Ev (fun k => ropewaylaw15_SnapEnds_t.l0 k xs 0 [] xs (xs.length : Int) 0 a b c [(⟨a, ⟨b, c⟩⟩ : C)] 0 []) true := by
  refine Ev.succ ?_
  simp only [ropewaylaw15_SnapEnds_t.l0]
  obtain ⟨q, hq⟩ := chk_ex hb 0
  have hl := rdb hb 0
  refine Ev.ite (fun h1 => Ev.ite_pos (by omega) (Ev.ite_pos h1 (Ev.bind hq (Ev.ite (fun h2 => ?_) fun _ => Ev.all fun k => rfl)))) (fun _ => endt_j5 0 0 (by omega) (by omega) (by omega) rfl (by simp))
  generalize rd_L3 xs 0 = x at hl
  refine Ev.ite_neg (by omega) (Ev.ite_pos (by first | trivial | rfl) (Ev.succ ?_))
  simp only [ropewaylaw15_SnapEnds_t.j2]
  refine Ev.ite_pos (by first | trivial | rfl) (Ev.ite_neg (by omega) (Ev.succ ?_))
  simp only [ropewaylaw15_SnapEnds_t.j3]
  refine Ev.ite_neg (by simp) (Ev.ite_pos (by first | trivial | rfl) (Ev.succ ?_))
  simp only [ropewaylaw15_SnapEnds_t.j4, Option.bind_some, List.nil_append, List.length_nil, Nat.zero_add, w1]
  exact Ev.ite_pos hl (Ev.ite_pos (by first | trivial | rfl) (Ev.bind_all (clone_eq hl) (Ev.ite (fun _ => Ev.ite_pos (by simp) (loop_t1 hb a b c hl (by omega))) fun hne => loop_t1 hb a b c hl (by omega))))
end
theorem SnapEnds : ropewaylaw15_SnapEnds.Pure := by
  intro u a b c xs _ _ _ hxs
  have hb : ∀ l ∈ xs, l.length < 5864062014805 := fun l hl => by have := (hxs.2.2 l hl).2.1; omega
  have alive : Ev (fun k => ropewaylaw15_snapAlive.f k) true := Ev.closed ropewaylaw15_snapAlive.mono 60 (by decide +kernel)
  have hall : Ev (fun k => ropewaylaw15_SnapEnds.f k u a b c xs) true := by
    unfold ropewaylaw15_SnapEnds.f
    refine Ev.ite (fun _ => ?_) (fun _ => ?_)
    · have jt : Ev (fun k => ropewaylaw15_SnapEnds_t.j0 k xs true a b c) true := Ev.const fun k => by simp only [ropewaylaw15_SnapEnds_t.j0]; rfl
      have jf : ∀ q : Bool, Ev (fun k => ropewaylaw15_SnapEnds_t.j0 k xs q a b c) true := by
        intro q
        cases q with
        | true => exact jt
        | false => refine Ev.succ ?_; simp only [ropewaylaw15_SnapEnds_t.j0]; exact Ev.ite_neg (by simp) (loop_t0 hb a b c)
      unfold ropewaylaw15_SnapEnds_t.f
      exact Ev.bind alive (Ev.ite_pos (by first | trivial | rfl) (Ev.ite (fun _ => jt) fun _ => Ev.ite (fun _ => jt) fun _ => Ev.ite (fun _ => jt) fun _ => Ev.bind_all (ref_Right_eq b c) (Ev.ite (fun _ => jf _) fun _ => jt)))
    · have jt : Ev (fun k => ropewaylaw15_SnapEnds_f.j0 k xs true) true := Ev.const fun k => by simp only [ropewaylaw15_SnapEnds_f.j0]; rfl
      have jf : ∀ q : Bool, Ev (fun k => ropewaylaw15_SnapEnds_f.j0 k xs q) true := by
        intro q
        cases q with
        | true => exact jt
        | false => refine Ev.succ ?_; simp only [ropewaylaw15_SnapEnds_f.j0]; exact Ev.ite_neg (by simp) (loop_f0 hb)
      unfold ropewaylaw15_SnapEnds_f.f
      exact Ev.bind alive (Ev.ite_pos (by first | trivial | rfl) (Ev.ite (fun _ => jt) fun _ => Ev.ite (fun _ => jt) fun _ => Ev.ite (fun _ => jt) fun _ => Ev.bind_all (ref_Right_eq b c) (Ev.ite (fun _ => jf _) fun _ => jt)))
  exact hall.rounds

end Go.Proofs.Ytoelfknhnmhlmaa.Pure
