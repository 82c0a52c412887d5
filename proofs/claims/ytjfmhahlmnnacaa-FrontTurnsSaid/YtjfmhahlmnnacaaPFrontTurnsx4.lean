/- Written by a program of this session (wip/tool/px.py) over the kit's print: what the code that the law FrontTurns reaches computes, function by function, and the law's row. -/
import Derived.Test.YtjfmhahlmnnacaaPFrontTurnsx0
import Derived.Test.YtjfmhahlmnnacaaPFrontTurnsx1
import Derived.Test.YtjfmhahlmnnacaaPFrontTurnsx2
import Derived.Test.YtjfmhahlmnnacaaPFrontTurnsx3
namespace Go.Proofs.Ytjfmhahlmnnacaa.PFrontTurns
open Go.RowKit Go.Proofs.YtjfmhahlmnnacaaX Go.Proofs.YtjfmhahlmnnacaaW.PrintWords Go.Proofs.YtjfmhahlmnnacaaW.PrintLast Go.Proofs.YtjfmhahlmnnacaaW.PrintMore
open List renaming setIfInBounds_toArray → zS, set_cons_zero → zZ, set_cons_succ → zC
open Go.Proofs.YtjfmhahlmnnacaaW.PrintWords renaming blk_drewN → zN, blk_drew → zD, blk_alloc → zA, blk_cell → zL, blk_frozen → zF, below_step → zB
open Go.Proofs.YtjfmhahlmnnacaaW.PrintWords.Aside0 renaming mk → zM
attribute [local go_sem] max2_int min2_int max_two min_two max_three min_three max_four min_four   -- for this text's walks alone
set_option linter.unusedVariables false
set_option linter.unusedSimpArgs false

attribute [local go_sem] px_nilq22
attribute [local go_sem high] eqA24
/-! ### front_Step: function 14 -/
mutual
def front_Step.l0 : Nat → List (S24) → List (S24) → Int → Int → List (S24) → Int → Int → Int → Int → List (S24) → Int → Int → Option ((List (S24)) × Int × Int)
  | 0, _, _, _, _, _, _, _, _, _, _, _, _ => none
  | k + 1, x2, x25, x26, x27, x159000, x159001, x159002, x160000, x160001, x165000, x165001, x165002 => if x27 < x26 then (if 0 ≤ x27 then (if x27 < (x25.length : Int) then (if (!(((rd_T24 x25 x27).f0) == x160000) || (!(((rd_T24 x25 x27).f1) == x160001))) = true then (if x165000.length < 8796093022208 then (front_Step.l0 k x2 x25 x26 (wrap64 (x27 + 1)) x159000 x159001 x159002 x160000 x160001 (x165000 ++ [(⟨(rd_T24 x25 x27).f0, (rd_T24 x25 x27).f1⟩ : S24)]) x165001 x165002) else (none)) else (front_Step.l0 k x2 x25 x26 (wrap64 (x27 + 1)) x159000 x159001 x159002 x160000 x160001 x165000 x165001 x165002)) else (none)) else (none)) else ((change_Join.f k x2).bind fun bt170 => ((change_Join.f k (([(⟨x159001, x159002⟩ : S24), (⟨bt170.1, bt170.2⟩ : S24)] : List (S24)))).bind fun bt175 => (front_Step.l1 k x2 (x2.length : Int) 0 x160000 x160001 x165000 bt175.1 bt175.2)))
def front_Step.l1 : Nat → List (S24) → Int → Int → Int → Int → List (S24) → Int → Int → Option ((List (S24)) × Int × Int)
  | 0, _, _, _, _, _, _, _, _ => none
  | k + 1, x48, x49, x50, x160000, x160001, x165000, x165001, x165002 => if x50 < x49 then (if 0 ≤ x50 then (if x50 < (x48.length : Int) then ((change_Join.f k (([(⟨x160000, x160001⟩ : S24), (⟨(rd_T24 x48 x50).f0, (rd_T24 x48 x50).f1⟩ : S24)] : List (S24)))).bind fun bt182 => (front_Step.l2 k x48 x49 x50 x165000 (x165000.length : Int) 0 x160000 x160001 x165000 x165001 x165002 bt182.1 bt182.2)) else (none)) else (none)) else (some (x165000, x165001, x165002))
def front_Step.l2 : Nat → List (S24) → Int → Int → List (S24) → Int → Int → Int → Int → List (S24) → Int → Int → Int → Int → Option ((List (S24)) × Int × Int)
  | 0, _, _, _, _, _, _, _, _, _, _, _, _, _ => none
  | k + 1, x48, x49, x50, x59, x60, x61, x160000, x160001, x165000, x165001, x165002, x185000, x185001 => if x61 < x60 then (if 0 ≤ x61 then (if x61 < (x59.length : Int) then (if (((rd_T24 x59 x61).f0) == x185000 && (((rd_T24 x59 x61).f1) == x185001)) = true then (front_Step.l1 k x48 x49 (wrap64 (x50 + 1)) x160000 x160001 x165000 x165001 x165002) else ((view_Less.f k x185000 x185001 ((rd_T24 x59 x61).f0) ((rd_T24 x59 x61).f1)).bind fun t190 => (if t190 = true then ((api_View_27.f x165000 x61 (([(⟨x185000, x185001⟩ : S24)] : List (S24)))).bind fun t194 => (front_Step.l1 k x48 x49 (wrap64 (x50 + 1)) x160000 x160001 t194 x165001 x165002)) else (front_Step.l2 k x48 x49 x50 x59 x60 (wrap64 (x61 + 1)) x160000 x160001 x165000 x165001 x165002 x185000 x185001)))) else (none)) else (none)) else (if x165000.length < 8796093022208 then (front_Step.l1 k x48 x49 (wrap64 (x50 + 1)) x160000 x160001 (x165000 ++ [(⟨x185000, x185001⟩ : S24)]) x165001 x165002) else (none))
end
def front_Step.f (k : Nat) (l0_0 : List (S24)) (a0_1 : Int) (a0_2 : Int) (a1_0 : Int) (a1_1 : Int) (l2 : List (S24)) : Option ((List (S24)) × Int × Int) := if (l2.length : Int) = 0 then ((api_View_26.f l0_0).bind fun t161 => (some (t161, a0_1, a0_2))) else (front_Step.l0 k l2 l0_0 (l0_0.length : Int) 0 l0_0 a0_1 a0_2 a1_0 a1_1 ([] : List (S24)) 0 0)
theorem front_Step.mono_l : ∀ k, (∀ y0 y1 y2 y3 y4 y5 y6 y7 y8 y9 y10 y11, LeO (front_Step.l0 k y0 y1 y2 y3 y4 y5 y6 y7 y8 y9 y10 y11) (front_Step.l0 (k + 1) y0 y1 y2 y3 y4 y5 y6 y7 y8 y9 y10 y11)) ∧ (∀ y0 y1 y2 y3 y4 y5 y6 y7, LeO (front_Step.l1 k y0 y1 y2 y3 y4 y5 y6 y7) (front_Step.l1 (k + 1) y0 y1 y2 y3 y4 y5 y6 y7)) ∧ (∀ y0 y1 y2 y3 y4 y5 y6 y7 y8 y9 y10 y11 y12, LeO (front_Step.l2 k y0 y1 y2 y3 y4 y5 y6 y7 y8 y9 y10 y11 y12) (front_Step.l2 (k + 1) y0 y1 y2 y3 y4 y5 y6 y7 y8 y9 y10 y11 y12))
  | 0 => ⟨fun _ _ _ _ _ _ _ _ _ _ _ _ r h => by simp [front_Step.l0] at h, fun _ _ _ _ _ _ _ _ r h => by simp [front_Step.l1] at h, fun _ _ _ _ _ _ _ _ _ _ _ _ _ r h => by simp [front_Step.l2] at h⟩
  | k + 1 => by
    obtain ⟨ih0, ih1, ih2⟩ := front_Step.mono_l k
    refine ⟨?_, ?_, ?_⟩
    · intro y0 y1 y2 y3 y4 y5 y6 y7 y8 y9 y10 y11
      unfold front_Step.l0
      repeat' first
      | (with_reducible exact ih0 _ _ _ _ _ _ _ _ _ _ _ _)
      | (with_reducible exact ih1 _ _ _ _ _ _ _ _)
      | (with_reducible exact ih2 _ _ _ _ _ _ _ _ _ _ _ _ _)
      | (with_reducible exact change_Join.mono _ _)
      | (with_reducible exact view_Less.mono _ _ _ _ _)
      | (with_reducible exact LeO.refl _)
      | (with_reducible exact LeO.none _)
      | (with_reducible refine LeO.ite ?_ ?_)
      | (with_reducible refine LeO.bind ?_ (fun _ => ?_))
      | exact ih0 _ _ _ _ _ _ _ _ _ _ _ _
      | exact ih1 _ _ _ _ _ _ _ _
      | exact ih2 _ _ _ _ _ _ _ _ _ _ _ _ _
      | exact change_Join.mono _ _
      | exact view_Less.mono _ _ _ _ _
      | exact LeO.none _
      | refine LeO.ite ?_ ?_
      | refine LeO.bind ?_ (fun _ => ?_)
    · intro y0 y1 y2 y3 y4 y5 y6 y7
      unfold front_Step.l1
      repeat' first
      | (with_reducible exact ih0 _ _ _ _ _ _ _ _ _ _ _ _)
      | (with_reducible exact ih1 _ _ _ _ _ _ _ _)
      | (with_reducible exact ih2 _ _ _ _ _ _ _ _ _ _ _ _ _)
      | (with_reducible exact change_Join.mono _ _)
      | (with_reducible exact view_Less.mono _ _ _ _ _)
      | (with_reducible exact LeO.refl _)
      | (with_reducible exact LeO.none _)
      | (with_reducible refine LeO.ite ?_ ?_)
      | (with_reducible refine LeO.bind ?_ (fun _ => ?_))
      | exact ih0 _ _ _ _ _ _ _ _ _ _ _ _
      | exact ih1 _ _ _ _ _ _ _ _
      | exact ih2 _ _ _ _ _ _ _ _ _ _ _ _ _
      | exact change_Join.mono _ _
      | exact view_Less.mono _ _ _ _ _
      | exact LeO.none _
      | refine LeO.ite ?_ ?_
      | refine LeO.bind ?_ (fun _ => ?_)
    · intro y0 y1 y2 y3 y4 y5 y6 y7 y8 y9 y10 y11 y12
      unfold front_Step.l2
      repeat' first
      | (with_reducible exact ih0 _ _ _ _ _ _ _ _ _ _ _ _)
      | (with_reducible exact ih1 _ _ _ _ _ _ _ _)
      | (with_reducible exact ih2 _ _ _ _ _ _ _ _ _ _ _ _ _)
      | (with_reducible exact change_Join.mono _ _)
      | (with_reducible exact view_Less.mono _ _ _ _ _)
      | (with_reducible exact LeO.refl _)
      | (with_reducible exact LeO.none _)
      | (with_reducible refine LeO.ite ?_ ?_)
      | (with_reducible refine LeO.bind ?_ (fun _ => ?_))
      | exact ih0 _ _ _ _ _ _ _ _ _ _ _ _
      | exact ih1 _ _ _ _ _ _ _ _
      | exact ih2 _ _ _ _ _ _ _ _ _ _ _ _ _
      | exact change_Join.mono _ _
      | exact view_Less.mono _ _ _ _ _
      | exact LeO.none _
      | refine LeO.ite ?_ ?_
      | refine LeO.bind ?_ (fun _ => ?_)
theorem front_Step.mono : ∀ a0 a1 a2 a3 a4 a5 k, LeO (front_Step.f k a0 a1 a2 a3 a4 a5) (front_Step.f (k + 1) a0 a1 a2 a3 a4 a5) := by
  intro a0 a1 a2 a3 a4 a5 k
  obtain ⟨ih0, ih1, ih2⟩ := front_Step.mono_l k
  unfold front_Step.f
  repeat' first
      | (with_reducible exact ih0 _ _ _ _ _ _ _ _ _ _ _ _)
      | (with_reducible exact ih1 _ _ _ _ _ _ _ _)
      | (with_reducible exact ih2 _ _ _ _ _ _ _ _ _ _ _ _ _)
      | (with_reducible exact change_Join.mono _ _)
      | (with_reducible exact view_Less.mono _ _ _ _ _)
      | (with_reducible exact LeO.refl _)
      | (with_reducible exact LeO.none _)
      | (with_reducible refine LeO.ite ?_ ?_)
      | (with_reducible refine LeO.bind ?_ (fun _ => ?_))
      | exact ih0 _ _ _ _ _ _ _ _ _ _ _ _
      | exact ih1 _ _ _ _ _ _ _ _
      | exact ih2 _ _ _ _ _ _ _ _ _ _ _ _ _
      | exact change_Join.mono _ _
      | exact view_Less.mono _ _ _ _ _
      | exact LeO.none _
      | refine LeO.ite ?_ ?_
      | refine LeO.bind ?_ (fun _ => ?_)
def front_Step.T10 : Bool × List (List Nat × List Nat) := (true, [([], []), ([0], [0]), ([], []), ([2], [2]), ([1, 3], [1, 3]), ([4, 3], [4]), ([0, 1, 2, 3, 4, 5], []), ([6, 5, 5, 0, 1, 2, 3, 4, 5], [5, 6])])
def front_Step.B10 : List Nat := [0, 1, 0, 4, 15, 31, 63, 127]
theorem front_Step.tab10 : rtab .any (opsOf Try.f14 10) = front_Step.T10 := by kernel_rfl
theorem front_Step.bits10 : waitsOk front_Step.T10.2 front_Step.B10 = true := by kernel_rfl
set_option maxHeartbeats 8000000 in
set_option maxRecDepth 100000 in
theorem front_Step.calls (k : Nat) (A0_0 : Option Addr) (c0_0 : Nat) (l0_0 : List (S24)) (a0_1 : Int) (a0_2 : Int) (a1_0 : Int) (a1_1 : Int) (A2 : Option Addr) (c2 : Nat) (l2 : List (S24)) (r1 : List (S24)) (r2 : Int) (r3 : Int) (w : World) (hr0_0 : Kd.C k24 w A0_0 l0_0.length l0_0) (hc0_0 : l0_0.length ≤ c0_0) (hr2 : Kd.C k24 w A2 l2.length l2) (hc2 : l2.length ≤ c2) (h : front_Step.f k l0_0 a0_1 a0_2 a1_0 a1_1 l2 = some (r1, r2, r3)) :
    Calls Try.prog 14 #[.agg #[.slice A0_0 l0_0.length c0_0, .int .i64 a0_1, .int .i64 a0_2], .agg #[.int .i64 a1_0, .int .i64 a1_1], .slice A2 l2.length c2] w fun e w' => ∃ v0_ : Value, e = .returned (.agg #[v0_, .int .i64 r2, .int .i64 r3]) ∧ Kd.R k24 24 w' w.heap.size (fun _ => True) v0_ r1 ∧ Below w.heap.size w w' := by
  have hu26 := Try.underlying26
  have hu24 := Try.underlying24
  have HR0_0 := zM hr0_0
  have HC0_0 := zM hc0_0
  clear hr0_0 hc0_0
  have HR2 := zM hr2
  have HC2 := zM hc2
  clear hr2 hc2
  have HB := zM (Below.refl w.heap.size w)
  have H : (if (l2.length : Int) = 0 then ((api_View_26.f l0_0).bind fun t161 => (some (t161, a0_1, a0_2))) else (front_Step.l0 k l2 l0_0 (l0_0.length : Int) 0 l0_0 a0_1 a0_2 a1_0 a1_1 ([] : List (S24)) 0 0)) = some (r1, r2, r3) := h
  clear h
  by_cases c4 : (l2.length : Int) = 0
  · rw [if_pos c4] at H
    have c4b0 : ((l2.length : Int) == 0) = true := beq_iff_eq.mpr c4
    have c4b1 : ((l2.length : Int) != 0) = false := bne_eq_false_iff_eq.mpr c4
    clear c4
    replace H := Option.bind_eq_some_iff.mp H
    obtain ⟨t161, A50, H⟩ := H
    replace H : (some (t161, a0_1, a0_2)) = some (r1, r2, r3) := H
    have A5 := zM A50
    clear A50
    simp only [Option.some.injEq, Prod.mk.injEq] at H
    obtain ⟨rfl, rfl, rfl⟩ := H
    go_enter Try.func14, Try.ntmps14
    (try apply wp_scope_straight)
    try go_wp2_with (first | go_step3 | ((with_reducible refine gate_dst (N := 3) rfl ?_); refine box_event ?hg (N := 3) ?hd (cs := #[.slice A0_0 l0_0.length c0_0, .int .i64 a0_1, .int .i64 a0_2]) (t := 26) ?hr ?_; (case hd => rfl); (case hg => rfl); (case hr => first | (go_simp; done) | (go_simp; rfl)); intro gb158 hg w6 hbox hb; have BK158 := zM (hbox); have GW158 := zM (bs_ hg); have GE158 := zM (bs_ hg); replace HB := zM (zB bel_ hb); clear hb hbox hg) | ((with_reducible refine gate_dst (N := 4) rfl ?_); refine box_event ?hg (N := 4) ?hd (cs := #[.int .i64 a1_0, .int .i64 a1_1]) (t := 24) ?hr ?_; (case hd => rfl); (case hg => rfl); (case hr => first | (go_simp; done) | (go_simp; rfl)); intro gb159 hg w7 hbox hb; have BK159 := zM (hbox); have GW159 := zM (bs_ hg); have GE159 := zM (bs_ hg); replace HB := zM (zB bel_ hb); have NB158_159 := zM (nl_ BK158 hg); have NB159_158 := zM (ng_ BK158 hg); replace BK158 := zM (bb_ BK158 hb); clear hb hbox hg) | ((with_reducible refine gate_dst (N := 6) rfl ?_); refine box_event ?hg (N := 6) ?hd (cs := #[.slice none 0 0, .int .i64 0, .int .i64 0]) (t := 26) ?hr ?_; (case hd => rfl); (case hg => rfl); (case hr => first | (go_simp; done) | (go_simp; rfl)); intro gb160 hg w8 hbox hb; have BK160 := zM (hbox); have GW160 := zM (bs_ hg); have GE160 := zM (bs_ hg); replace HB := zM (zB bel_ hb); have NB158_160 := zM (nl_ BK158 hg); have NB160_158 := zM (ng_ BK158 hg); replace BK158 := zM (bb_ BK158 hb); have NB159_160 := zM (nl_ BK159 hg); have NB160_159 := zM (ng_ BK159 hg); replace BK159 := zM (bb_ BK159 hb); clear hb hbox hg))
    replace BK158 := zM (zD BK158.out)
    replace BK159 := zM (zD BK159.out)
    replace BK160 := zM (zD BK160.out)
    replace HB := zM (below_drew1 HB.out)
    refine start_ (n := 7) (S := fun w' => w'.cell? ⟨gb158, 0, none⟩ = some (.slice A0_0 l0_0.length c0_0) ∧ w'.cell? ⟨gb158, 1, none⟩ = some (.int .i64 a0_1) ∧ w'.cell? ⟨gb158, 2, none⟩ = some (.int .i64 a0_2)) (ds := []) #[F_, F_, F_, F_, F_, F_, F_] (by kernel_rfl) rfl rfl ⟨(zL BK158.out 0).trans rfl, (zL BK158.out 1).trans rfl, (zL BK158.out 2).trans rfl⟩ (fun hHeld => ?_)
    generalize w8.drew = w9 at BK158 BK159 BK160 HB hHeld ⊢
    refine pure_ (i := 0) (N := some 18) (v := ?_) (a' := ?_) #[T_, F_, F_, F_, F_, F_, F_] rfl rfl (by kernel_rfl) (fun _ _ _ h => h) (Or.inl ⟨by rfl, ?_⟩) ?_ ?_
    rotate_left
    · intro w'
      go_simp
      with_reducible rfl
    rotate_left
    · simp only [Act.put, zS, zZ, zC, i64_w, i32_w]
      rfl
    refine pure_ (i := 3) (N := some 21) (v := ?_) (a' := ?_) #[T_, F_, F_, T_, F_, F_, F_] rfl rfl (by kernel_rfl) (fun _ _ _ h => h) (Or.inl ⟨by rfl, ?_⟩) ?_ ?_
    rotate_left
    · intro w'
      go_simp
      with_reducible rfl
    rotate_left
    · simp only [Act.put, zS, zZ, zC, i64_w, i32_w]
      rfl
    refine take_ (i := 1) (N := some 19) (v := ?_) (a' := ?_) #[T_, T_, F_, T_, F_, F_, F_] rfl rfl (by kernel_rfl) (fun _ _ _ h => h) (Or.inl ⟨by rfl, ?_⟩) hHeld ?_ ?_
    rotate_left
    · rintro w' ⟨s0, s1, s2⟩
      go_simp
      with_reducible rfl
    rotate_left
    · simp only [Act.put, zS, zZ, zC, i64_w, i32_w]
      rfl
    refine take_ (i := 4) (N := some 22) (v := ?_) (a' := ?_) #[T_, T_, F_, T_, T_, F_, F_] rfl rfl (by kernel_rfl) (fun _ _ _ h => h) (Or.inl ⟨by rfl, ?_⟩) hHeld ?_ ?_
    rotate_left
    · rintro w' ⟨s0, s1, s2⟩
      go_simp
      with_reducible rfl
    rotate_left
    · simp only [Act.put, zS, zZ, zC, i64_w, i32_w]
      rfl
    refine one_ (i := 2) (N := some 20) #[T_, T_, T_, T_, T_, F_, F_] rfl rfl (by kernel_rfl) (by decide) (fun K hK => ?_)
    refine goes_ Try.func26 (by kernel_rfl) rfl #[.slice A0_0 l0_0.length c0_0] (by rfl) rfl rfl (by (try simp only [List.map_toArray, List.map_cons, List.map_nil]); first | done | rfl | (simp only [List.length_drop, List.length_take]; rfl)) ?_
    with_reducible refine (api_View_26.calls _ _ l0_0 t161 _ ?side1 ?side2 A5.out).mono ?_
    (case side1 => repeat (first | exact (Kd.C_below HR0_0.out HB.out) | (with_reducible refine Kd.C_alloc ?_ _) | (with_reducible refine Kd.C_drewN ?_ _) | (with_reducible refine Kd.C_drew ?_)))
    (case side2 => exact HC0_0.out)
    rintro e w10 ⟨v162, rfl, ho0, hb⟩
    refine ⟨_, rfl, ?_⟩
    have HO163 := zM (Kd.R_lower (Kd.R_newB ho0 (g := gb159) (o := .cells #[.int .i64 a1_0, .int .i64 a1_1] 24 (0, 0)) blk_) (below_size bel_))
    replace BK158 := zM (bb_ BK158 hb)
    replace BK159 := zM (bb_ BK159 hb)
    replace BK160 := zM (bb_ BK160 hb)
    replace HB := zM (zB bel_ hb)
    (try clear hb)
    (try clear hb2)
    (try clear hk)
    (try clear hi)
    (try clear ho0)
    obtain ⟨Ao11, co11, eo11⟩ := Kd.R_slice HO163.out
    (first | subst eo11 | (injection eo11 with f1_ f2_ f3_; have f4_ := f1_.symm; have f5_ := f3_.symm; clear f1_ f2_ f3_; subst f4_; subst f5_))
    refine hK.out _ _ ⟨(zL BK158.out 0).trans rfl, (zL BK158.out 1).trans rfl, (zL BK158.out 2).trans rfl⟩ (fun hHeld => ?_)
    clear hK K
    refine norm_ (a' := ?_) ?_ ?_
    rotate_left
    · show Act.put _ (some 20) _ = _
      simp only [Act.put, zS, zZ, zC, i64_w, i32_w]
      rfl
    refine pure_ (i := 5) (N := some 23) (v := ?_) (a' := ?_) #[T_, T_, T_, T_, T_, T_, F_] rfl rfl (by kernel_rfl) (fun _ _ _ h => h) (Or.inl ⟨by rfl, ?_⟩) ?_ ?_
    rotate_left
    · intro w'
      go_simp
      with_reducible rfl
    rotate_left
    · simp only [Act.put, zS, zZ, zC, i64_w, i32_w]
      rfl
    refine one_ (i := 6) (N := none) #[T_, T_, T_, T_, T_, T_, T_] rfl rfl (by kernel_rfl) (by decide) (fun K hK => ?_)
    have hs12 : w10.cell? ⟨gb160, 0, none⟩ = some (.slice none 0 0) := (zL BK160.out 0).trans rfl
    have hfs12 := zF BK160.out 0
    have hns12_0 := NB158_160.out
    have hns12_1 := NB159_160.out
    have hms12_0 := NB160_158.out
    have hms12_1 := NB160_159.out
    have hs13 : w10.cell? ⟨gb160, 1, none⟩ = some (.int .i64 0) := (zL BK160.out 1).trans rfl
    have hfs13 := zF BK160.out 1
    have hns13_0 := NB158_160.out
    have hns13_1 := NB159_160.out
    have hms13_0 := NB160_158.out
    have hms13_1 := NB160_159.out
    have hs14 : w10.cell? ⟨gb160, 2, none⟩ = some (.int .i64 0) := (zL BK160.out 2).trans rfl
    have hfs14 := zF BK160.out 2
    have hns14_0 := NB158_160.out
    have hns14_1 := NB159_160.out
    have hms14_0 := NB160_158.out
    have hms14_1 := NB160_159.out
    refine skip_ (w1 := ?_) (by rfl) rfl ?_ ?_
    rotate_left
    · go_simp
      rfl
    refine hK.out _ _ ⟨((cell_far (p := ⟨gb160, _, none⟩) NB158_160.out _).trans (((cell_far (p := ⟨gb160, _, none⟩) NB158_160.out _).trans (((cell_far (p := ⟨gb160, _, none⟩) NB158_160.out _).trans (hHeld.1)))))), ((cell_far (p := ⟨gb160, _, none⟩) NB158_160.out _).trans (((cell_far (p := ⟨gb160, _, none⟩) NB158_160.out _).trans (((cell_far (p := ⟨gb160, _, none⟩) NB158_160.out _).trans (hHeld.2.1)))))), ((cell_far (p := ⟨gb160, _, none⟩) NB158_160.out _).trans (((cell_far (p := ⟨gb160, _, none⟩) NB158_160.out _).trans (((cell_far (p := ⟨gb160, _, none⟩) NB158_160.out _).trans (hHeld.2.2))))))⟩ (fun hHeld => ?_)
    clear hK K
    refine done_ (by kernel_rfl) ?_
    try go_wp2_with (first | go_step3 | go_in)
    (try rw [Exit.noGoto_ret])
    refine bodyPost_ret (results_cell_row rfl _ _ gb160 26 #[.slice Ao11 t161.length co11, .int .i64 a0_1, .int .i64 a0_2] (0, 0) _ rfl (by (with_reducible repeat (first | refine zN ?_ _ | refine zD ?_ | refine zA ?_ _)); refine blk_put (cs := #[.slice Ao11 t161.length co11, .int .i64 a0_1, .int .i64 0]) ?_ 2 _ rfl; (with_reducible repeat (first | refine zN ?_ _ | refine zD ?_ | refine zA ?_ _)); refine blk_put (cs := #[.slice Ao11 t161.length co11, .int .i64 0, .int .i64 0]) ?_ 1 _ rfl; (with_reducible repeat (first | refine zN ?_ _ | refine zD ?_ | refine zA ?_ _)); refine blk_put (cs := #[.slice none 0 0, .int .i64 0, .int .i64 0]) ?_ 0 _ rfl; (with_reducible repeat (first | refine zN ?_ _ | refine zD ?_ | refine zA ?_ _)); exact BK160.out) Try.underlying26 rfl (by kernel_rfl)) rfl ?_
    exact ⟨_, by first | rfl | (simp [errW_none, errW_some] <;> rfl) | (simp [*, errW_none, errW_some] <;> rfl), by (with_reducible repeat (first | apply Kd.R_alloc | apply Kd.R_drewN | apply Kd.R_drew)); exact Kd.R_mono (Kd.R_far (p := ⟨gb160, 2, none⟩) (Kd.R_far (p := ⟨gb160, 1, none⟩) (Kd.R_far (p := ⟨gb160, 0, none⟩) (Kd.R_types HO163.out BK160.out (by decide)) (fun _ hk => hk.2) (.slice Ao11 t161.length co11)) (fun _ hk => hk.2) (.int .i64 a0_1)) (fun _ hk => hk.2) (.int .i64 a0_2)) (fun _ hk => trivial), bel_⟩
  rw [if_neg c4] at H
  have c4b0 : ((l2.length : Int) == 0) = false := beq_eq_false_iff_ne.mpr c4
  have c4b1 : ((l2.length : Int) != 0) = true := bne_iff_ne.mpr c4
  have c4b2 : ¬ (l2 = []) := fun h_ => c4 (by rw [h_]; rfl)
  have H' := zM H
  clear H
  go_enter Try.func14, Try.ntmps14
  (try apply wp_scope_straight)
  go_wp2_with (first | go_step3 | ((with_reducible refine gate_dst (N := 3) rfl ?_); refine box_event ?hg (N := 3) ?hd (cs := #[.slice A0_0 l0_0.length c0_0, .int .i64 a0_1, .int .i64 a0_2]) (t := 26) ?hr ?_; (case hd => rfl); (case hg => rfl); (case hr => first | (go_simp; done) | (go_simp; rfl)); intro gb158 hg w15 hbox hb; have BK158 := zM (hbox); have GW158 := zM (bs_ hg); have GE158 := zM (bs_ hg); replace HB := zM (zB bel_ hb); clear hb hbox hg) | ((with_reducible refine gate_dst (N := 4) rfl ?_); refine box_event ?hg (N := 4) ?hd (cs := #[.int .i64 a1_0, .int .i64 a1_1]) (t := 24) ?hr ?_; (case hd => rfl); (case hg => rfl); (case hr => first | (go_simp; done) | (go_simp; rfl)); intro gb159 hg w16 hbox hb; have BK159 := zM (hbox); have GW159 := zM (bs_ hg); have GE159 := zM (bs_ hg); replace HB := zM (zB bel_ hb); have NB158_159 := zM (nl_ BK158 hg); have NB159_158 := zM (ng_ BK158 hg); replace BK158 := zM (bb_ BK158 hb); clear hb hbox hg) | ((with_reducible refine gate_dst (N := 6) rfl ?_); refine box_event ?hg (N := 6) ?hd (cs := #[.slice none 0 0, .int .i64 0, .int .i64 0]) (t := 26) ?hr ?_; (case hd => rfl); (case hg => rfl); (case hr => first | (go_simp; done) | (go_simp; rfl)); intro gb160 hg w17 hbox hb; have BK160 := zM (hbox); have GW160 := zM (bs_ hg); have GE160 := zM (bs_ hg); replace HB := zM (zB bel_ hb); have NB158_160 := zM (nl_ BK158 hg); have NB160_158 := zM (ng_ BK158 hg); replace BK158 := zM (bb_ BK158 hb); have NB159_160 := zM (nl_ BK159 hg); have NB160_159 := zM (ng_ BK159 hg); replace BK159 := zM (bb_ BK159 hb); clear hb hbox hg) | ((with_reducible refine gate_dst (N := 7) rfl ?_); refine box_event ?hg (N := 7) ?hd (cs := #[.slice none 0 0, .int .i64 0, .int .i64 0]) (t := 26) ?hr ?_; (case hd => rfl); (case hg => rfl); (case hr => first | (go_simp; done) | (go_simp; rfl)); intro gb164 hg w18 hbox hb; have BK164 := zM (hbox); have GW164 := zM (bs_ hg); have GE164 := zM (bs_ hg); replace HB := zM (zB bel_ hb); have NB158_164 := zM (nl_ BK158 hg); have NB164_158 := zM (ng_ BK158 hg); replace BK158 := zM (bb_ BK158 hb); have NB159_164 := zM (nl_ BK159 hg); have NB164_159 := zM (ng_ BK159 hg); replace BK159 := zM (bb_ BK159 hb); have NB160_164 := zM (nl_ BK160 hg); have NB164_160 := zM (ng_ BK160 hg); replace BK160 := zM (bb_ BK160 hb); clear hb hbox hg; have hnb19 := NB158_159.out; have hnc19 := NB159_158.out; have hnb20 := NB158_160.out; have hnc20 := NB160_158.out; have hnb21 := NB158_164.out; have hnc21 := NB164_158.out; have hcz22_0 : w18.cell? ⟨gb158, 0, none⟩ = some (.slice A0_0 l0_0.length c0_0) := (zL BK158.out 0).trans rfl; have hcz22_1 : w18.cell? ⟨gb158, 1, none⟩ = some (.int .i64 a0_1) := (zL BK158.out 1).trans rfl; have hcz22_2 : w18.cell? ⟨gb158, 2, none⟩ = some (.int .i64 a0_2) := (zL BK158.out 2).trans rfl; have hfz22_0 := zF BK158.out 0; have hfz22_1 := zF BK158.out 1; have hfz22_2 := zF BK158.out 2))
  go_loopg [27] k (fun kq v27 w' => ∃ (x27_1 : Int) (x165000_1 : List (S24)) (u165000 : Value), v27 = .int .i64 x27_1 ∧ Aside0 (front_Step.l0 kq l2 l0_0 (l0_0.length : Int) x27_1 l0_0 a0_1 a0_2 a1_0 a1_1 x165000_1 0 0 = some (r1, r2, r3)) ∧ Aside0 (kq ≤ k) ∧ Aside0 (Kd.R k24 24 w' w.heap.size (fun k_ => k_ ≠ gb159) u165000 x165000_1) ∧ Aside0 (w'.heap[gb158]? = some (.cells #[(.slice A0_0 l0_0.length c0_0), .int .i64 a0_1, .int .i64 a0_2] 26 (0, 0))) ∧ Aside0 (w'.heap[gb159]? = some (.cells #[.int .i64 a1_0, .int .i64 a1_1] 24 (0, 0))) ∧ Aside0 (w'.heap[gb160]? = some (.cells #[(.slice none 0 0), .int .i64 0, .int .i64 0] 26 (0, 0))) ∧ Aside0 (w'.heap[gb164]? = some (.cells #[u165000, .int .i64 0, .int .i64 0] 26 (0, 0))) ∧ Aside0 (Below w.heap.size w w'))
  case atStart => exact ⟨(0), (([] : List (S24))), (.slice none 0 0), (by first | rfl | (simp; done) | (simp [*]; done) | (simp; grind)), H', ⟨Nat.le_refl _⟩, ⟨by first | exact Kd.R_nil _ _ _ _ _ | exact Kd.N_nil _ _ _ _ _ | exact Kd.V_nil _ _ _ _ _ | exact Kd.Q_nil _ _ _ _ _ | exact Kd.S_nil _ _ _ _ _⟩, ⟨blf_⟩, ⟨blf_⟩, ⟨blf_⟩, ⟨blf_⟩, ⟨bel_⟩⟩
  case round =>
   clear H'
   try clear c1
   try clear c2
   try clear p2
   try clear c4
   try clear c4b0
   try clear c4b1
   try clear c4b2
   try clear c14
   try clear c19
   try clear c20
   try clear c21
   try clear hcz22_0
   try clear hcz22_1
   try clear hcz22_2
   try clear hfz22_0
   try clear hfz22_1
   try clear hfz22_2
   try clear HO_165000
   try clear BK158
   try clear BK159
   try clear BK160
   try clear BK164
   try clear HB
   obtain ⟨x27_1, x165000_1, u165000, rfl, HA, HK1, HO_165000, BK158, BK159, BK160, BK164, HB⟩ := hrel
   cases gk with
   | zero => exact absurd HA.out (by simp [front_Step.l0])
   | succ k1 =>
    have H := HA.out
    clear HA
    simp only [front_Step.l0] at H
    by_cases c23 : x27_1 < (l0_0.length : Int)
    · rw [if_pos c23] at H
      have c23b0 : decide (x27_1 < (l0_0.length : Int)) = true := decide_eq_true c23
      clear c23
      by_cases c24 : 0 ≤ x27_1
      rotate_left
      · rw [if_neg c24] at H
        exact absurd H (by simp)
      rw [if_pos c24] at H
      have c24b0 : decide (0 ≤ x27_1) = true := decide_eq_true c24
      clear c24
      by_cases c25 : x27_1 < (l0_0.length : Int)
      rotate_left
      · rw [if_neg c25] at H
        exact absurd H (by simp)
      rw [if_pos c25] at H
      have c25b0 : decide (x27_1 < (l0_0.length : Int)) = true := decide_eq_true c25
      clear c25
      by_cases c26 : (!(((rd_T24 l0_0 x27_1).f0) == a1_0) || (!(((rd_T24 l0_0 x27_1).f1) == a1_1))) = true
      rotate_left
      · rw [if_neg c26] at H
        have c26b0 : (!(((rd_T24 l0_0 x27_1).f0) == a1_0) || (!(((rd_T24 l0_0 x27_1).f1) == a1_1))) = false := by simpa using c26
        clear c26
        have H' := zM H
        clear H
        have p165 : 0 ≤ (x27_1 : Int) := of_decide_eq_true (by first | (with_reducible assumption) | assumption)
        have q165 : x27_1 < (l0_0.length : Int) := of_decide_eq_true (by first | (with_reducible assumption) | assumption)
        obtain ⟨ad165, e165, hx165_0, hx165_1⟩ := at_T24 HR0_0.out x27_1 p165 q165
        cases e165
        replace hx165_0 := (HB.out.cell (World.block_lt_of_cell? w _ hx165_0)).trans hx165_0
        replace hx165_1 := (HB.out.cell (World.block_lt_of_cell? w _ hx165_1)).trans hx165_1
        replace p165 := eq_true p165
        replace q165 := eq_true q165
        go_wp2_with (first | go_step3 | ((with_reducible refine gate_dst (N := 9) rfl ?_); refine box_event ?hg (N := 9) ?hd (cs := #[.int .i64 0, .int .i64 0]) (t := 24) ?hr ?_; (case hd => rfl); (case hg => rfl); (case hr => first | (go_simp; done) | (go_simp; rfl)); intro gb166 hg w44 hbox hb; replace HO_165000 := zM (Kd.R_below (Kd.R_elderB (rl_ HO_165000) gb166 (Nat.le_of_eq hg.symm)) hb); have BK166 := zM (hbox); have GW166 := zM (bs_ hg); have GE166 := zM (bs_ hg); replace HB := zM (zB bel_ hb); have NB158_166 := zM (nl_ BK158 hg); have NB166_158 := zM (ng_ BK158 hg); replace BK158 := zM (bb_ BK158 hb); have NB159_166 := zM (nl_ BK159 hg); have NB166_159 := zM (ng_ BK159 hg); replace BK159 := zM (bb_ BK159 hb); have NB160_166 := zM (nl_ BK160 hg); have NB166_160 := zM (ng_ BK160 hg); replace BK160 := zM (bb_ BK160 hb); have NB164_166 := zM (nl_ BK164 hg); have NB166_164 := zM (ng_ BK164 hg); replace BK164 := zM (bb_ BK164 hb); clear hb hbox hg; have hnb45 := NB166_158.out; have hnc45 := NB158_166.out; have hnb46 := NB166_159.out; have hnc46 := NB159_166.out; have hnb47 := NB166_160.out; have hnc47 := NB160_166.out; have hnb48 := NB166_164.out; have hnc48 := NB164_166.out; have hcz49_0 : w44.cell? ⟨gb166, 0, none⟩ = some (.int .i64 0) := (zL BK166.out 0).trans rfl; have hcz49_1 : w44.cell? ⟨gb166, 1, none⟩ = some (.int .i64 0) := (zL BK166.out 1).trans rfl; have hfz49_0 := zF BK166.out 0; have hfz49_1 := zF BK166.out 1; have hnb50 := NB159_158.out; have hnc50 := NB158_159.out; have hnb51 := NB159_160.out; have hnc51 := NB160_159.out; have hnb52 := NB159_164.out; have hnc52 := NB164_159.out; have hcz53_0 : w44.cell? ⟨gb159, 0, none⟩ = some (.int .i64 a1_0) := (zL BK159.out 0).trans rfl; have hcz53_1 : w44.cell? ⟨gb159, 1, none⟩ = some (.int .i64 a1_1) := (zL BK159.out 1).trans rfl; have hfz53_0 := zF BK159.out 0; have hfz53_1 := zF BK159.out 1))
        go_roundg k1
        case measure => have := HK1.out; omega
        case rel => exact ⟨(wrap64 (x27_1 + 1)), (x165000_1), (u165000), (by first | rfl | (simp; done) | (simp [*]; done) | (simp; grind)), H', ⟨by have := HK1.out; omega⟩, ⟨by (with_reducible repeat (first | apply Kd.R_alloc | apply Kd.R_drewN | apply Kd.R_drew)); exact Kd.R_mono (Kd.R_far (p := ⟨gb166, 1, none⟩) (Kd.R_far (p := ⟨gb166, 0, none⟩) (Kd.R_mono HO_165000.out (fun k_ hk => (⟨hk, hk.2⟩ : _ ∧ k_ ≠ gb166))) (fun _ hk => hk.2) (.int .i64 ((rd_T24 l0_0 x27_1).f0))) (fun _ hk => hk.2) (.int .i64 ((rd_T24 l0_0 x27_1).f1))) (fun _ hk => hk.1.1)⟩, ⟨blf_⟩, ⟨blf_⟩, ⟨blf_⟩, ⟨blf_⟩, ⟨bel_⟩⟩
      rw [if_pos c26] at H
      have c26b0 : (!(((rd_T24 l0_0 x27_1).f0) == a1_0) || (!(((rd_T24 l0_0 x27_1).f1) == a1_1))) = true := c26
      clear c26
      by_cases c27 : x165000_1.length < 8796093022208
      rotate_left
      · rw [if_neg c27] at H
        exact absurd H (by simp)
      rw [if_pos c27] at H
      have LMc27 := zM c27
      clear c27
      obtain ⟨y167, hy167⟩ : ∃ y_ : List (S24), y_ = (x165000_1 ++ [(⟨(rd_T24 l0_0 x27_1).f0, (rd_T24 l0_0 x27_1).f1⟩ : S24)]) := ⟨_, rfl⟩
      replace H : (front_Step.l0 k1 l2 l0_0 (l0_0.length : Int) (wrap64 (x27_1 + 1)) l0_0 a0_1 a0_2 a1_0 a1_1 y167 0 0) = some (r1, r2, r3) := by first | (rw [hy167]; with_reducible exact H) | (have H2_ := (Option.bind_some _ _).symm.trans H; rw [hy167]; with_reducible exact H2_) | (have H2_ := (Option.bind_some _ _).symm.trans H; with_reducible exact H2_) | with_reducible exact H | (rw [hy167]; exact H) | exact H
      have Ny167 := zM hy167
      clear hy167
      have H' := zM H
      clear H
      have p165 : 0 ≤ (x27_1 : Int) := of_decide_eq_true (by first | (with_reducible assumption) | assumption)
      have q165 : x27_1 < (l0_0.length : Int) := of_decide_eq_true (by first | (with_reducible assumption) | assumption)
      obtain ⟨ad165, e165, hx165_0, hx165_1⟩ := at_T24 HR0_0.out x27_1 p165 q165
      cases e165
      replace hx165_0 := (HB.out.cell (World.block_lt_of_cell? w _ hx165_0)).trans hx165_0
      replace hx165_1 := (HB.out.cell (World.block_lt_of_cell? w _ hx165_1)).trans hx165_1
      replace p165 := eq_true p165
      replace q165 := eq_true q165
      go_wp2_with (first | go_step3 | ((with_reducible refine gate_dst (N := 9) rfl ?_); refine box_event ?hg (N := 9) ?hd (cs := #[.int .i64 0, .int .i64 0]) (t := 24) ?hr ?_; (case hd => rfl); (case hg => rfl); (case hr => first | (go_simp; done) | (go_simp; rfl)); intro gb166 hg w28 hbox hb; replace HO_165000 := zM (Kd.R_below (Kd.R_elderB (rl_ HO_165000) gb166 (Nat.le_of_eq hg.symm)) hb); have BK166 := zM (hbox); have GW166 := zM (bs_ hg); have GE166 := zM (bs_ hg); replace HB := zM (zB bel_ hb); have NB158_166 := zM (nl_ BK158 hg); have NB166_158 := zM (ng_ BK158 hg); replace BK158 := zM (bb_ BK158 hb); have NB159_166 := zM (nl_ BK159 hg); have NB166_159 := zM (ng_ BK159 hg); replace BK159 := zM (bb_ BK159 hb); have NB160_166 := zM (nl_ BK160 hg); have NB166_160 := zM (ng_ BK160 hg); replace BK160 := zM (bb_ BK160 hb); have NB164_166 := zM (nl_ BK164 hg); have NB166_164 := zM (ng_ BK164 hg); replace BK164 := zM (bb_ BK164 hb); clear hb hbox hg; have hnb29 := NB166_158.out; have hnc29 := NB158_166.out; have hnb30 := NB166_159.out; have hnc30 := NB159_166.out; have hnb31 := NB166_160.out; have hnc31 := NB160_166.out; have hnb32 := NB166_164.out; have hnc32 := NB164_166.out; have hcz33_0 : w28.cell? ⟨gb166, 0, none⟩ = some (.int .i64 0) := (zL BK166.out 0).trans rfl; have hcz33_1 : w28.cell? ⟨gb166, 1, none⟩ = some (.int .i64 0) := (zL BK166.out 1).trans rfl; have hfz33_0 := zF BK166.out 0; have hfz33_1 := zF BK166.out 1; have hnb34 := NB159_158.out; have hnc34 := NB158_159.out; have hnb35 := NB159_160.out; have hnc35 := NB160_159.out; have hnb36 := NB159_164.out; have hnc36 := NB164_159.out; have hcz37_0 : w28.cell? ⟨gb159, 0, none⟩ = some (.int .i64 a1_0) := (zL BK159.out 0).trans rfl; have hcz37_1 : w28.cell? ⟨gb159, 1, none⟩ = some (.int .i64 a1_1) := (zL BK159.out 1).trans rfl; have hfz37_0 := zF BK159.out 0; have hfz37_1 := zF BK159.out 1; have hnb38 := NB164_158.out; have hnc38 := NB158_164.out; have hnb39 := NB164_160.out; have hnc39 := NB160_164.out; have hcz40_0 : w28.cell? ⟨gb164, 0, none⟩ = some (u165000) := (zL BK164.out 0).trans rfl; have hcz40_1 : w28.cell? ⟨gb164, 1, none⟩ = some (.int .i64 0) := (zL BK164.out 1).trans rfl; have hcz40_2 : w28.cell? ⟨gb164, 2, none⟩ = some (.int .i64 0) := (zL BK164.out 2).trans rfl; have hfz40_0 := zF BK164.out 0; have hfz40_1 := zF BK164.out 1; have hfz40_2 := zF BK164.out 2) | ((with_reducible refine gate_builtin (b := .append) (xs := #[.tmp 35, .tmp 37]) rfl ?_); at_builtin; refine Kd.R_append k24 (w0 := w) w.heap.size rfl (.tmp 35) (.tmp 37) 22 24 (.agg #[(.int .i64 0), (.int .i64 0)]) 16 rfl Try.underlying22 info24 rfl (by decide) (by omega) u165000 x165000_1 (⟨(rd_T24 l0_0 x27_1).f0, (rd_T24 l0_0 x27_1).f1⟩ : S24) [.int .i64 ((rd_T24 l0_0 x27_1).f0), .int .i64 ((rd_T24 l0_0 x27_1).f1)] (fun k_ => k_ ≠ gb159 ∧ k_ ≠ gb166) (fun _ => False) rfl (by first | (go_simp; done) | (go_simp; rfl)) ?aP (fun _ hk => hk.elim) ?aF ?aO ?aB ?aS ?aL ?_; (case aP => exact k24_mkM _ _ _ (⟨(rd_T24 l0_0 x27_1).f0, (rd_T24 l0_0 x27_1).f1⟩ : S24)); (case aB => exact bel_); (case aF => exact (fun k_ hk => ⟨Kd.freshB (g := gb159) (o := .cells #[.int .i64 a1_0, .int .i64 a1_1] 24 (0, 0)) blf_ k_ hk, Kd.freshB (g := gb166) (o := .cells #[.int .i64 ((rd_T24 l0_0 x27_1).f0), .int .i64 ((rd_T24 l0_0 x27_1).f1)] 24 (0, 0)) (by (with_reducible repeat (first | refine zN ?_ _ | refine zD ?_ | refine zA ?_ _)); refine blk_put (cs := #[.int .i64 ((rd_T24 l0_0 x27_1).f0), .int .i64 0]) ?_ 1 _ rfl; (with_reducible repeat (first | refine zN ?_ _ | refine zD ?_ | refine zA ?_ _)); refine blk_put (cs := #[.int .i64 0, .int .i64 0]) ?_ 0 _ rfl; (with_reducible repeat (first | refine zN ?_ _ | refine zD ?_ | refine zA ?_ _)); exact BK166.out) k_ hk⟩)); (case aO => exact (by (with_reducible repeat (first | apply Kd.R_alloc | apply Kd.R_drewN | apply Kd.R_drew)); exact Kd.R_mono (Kd.R_far (p := ⟨gb166, 1, none⟩) (Kd.R_far (p := ⟨gb166, 0, none⟩) (Kd.R_mono HO_165000.out (fun k_ hk => (⟨hk, hk.2⟩ : _ ∧ k_ ≠ gb166))) (fun _ hk => hk.2) (.int .i64 ((rd_T24 l0_0 x27_1).f0))) (fun _ hk => hk.2) (.int .i64 ((rd_T24 l0_0 x27_1).f1))) (fun _ hk => ⟨hk.1.1, hk.1.2⟩))); (case aS => exact (below_size bel_)); (case aL => have := LMc27.out; omega); intro v168 w41 ho hb hg hat; rw [← Ny167.out] at ho; have n0_ := zM (blk_grown (g := gb158) (o := .cells #[.slice (some ad165) l0_0.length c0_0, .int .i64 a0_1, .int .i64 a0_2] 26 (0, 0)) blf_ hg (Kd.R_ne HO_165000.out BK158.out (by decide))); have n1_ := zM (blk_grown (g := gb159) (o := .cells #[.int .i64 a1_0, .int .i64 a1_1] 24 (0, 0)) blf_ hg (Kd.R_away HO_165000.out (fun _ hk => hk.1))); have n2_ := zM (blk_grown (g := gb160) (o := .cells #[.slice none 0 0, .int .i64 0, .int .i64 0] 26 (0, 0)) blf_ hg (Kd.R_ne HO_165000.out BK160.out (by decide))); have n3_ := zM (blk_grown (g := gb164) (o := .cells #[u165000, .int .i64 0, .int .i64 0] 26 (0, 0)) blf_ hg (Kd.R_ne HO_165000.out BK164.out (by decide))); have n4_ := zM (blk_grown (g := gb166) (o := .cells #[.int .i64 ((rd_T24 l0_0 x27_1).f0), .int .i64 ((rd_T24 l0_0 x27_1).f1)] 24 (0, 0)) (by (with_reducible repeat (first | refine zN ?_ _ | refine zD ?_ | refine zA ?_ _)); refine blk_put (cs := #[.int .i64 ((rd_T24 l0_0 x27_1).f0), .int .i64 0]) ?_ 1 _ rfl; (with_reducible repeat (first | refine zN ?_ _ | refine zD ?_ | refine zA ?_ _)); refine blk_put (cs := #[.int .i64 0, .int .i64 0]) ?_ 0 _ rfl; (with_reducible repeat (first | refine zN ?_ _ | refine zD ?_ | refine zA ?_ _)); exact BK166.out) hg (Kd.R_away HO_165000.out (fun _ hk => hk.2))); have n5_ := zM (hb); have n6_ := zM (ho); clear BK158; clear BK159; clear BK160; clear BK164; clear BK166; clear HB; clear HO_165000; have BK158 := n0_; have BK159 := n1_; have BK160 := n2_; have BK164 := n3_; have BK166 := n4_; have HB := n5_; have HO169 := n6_; clear n0_ n1_ n2_ n3_ n4_ n5_ n6_; clear ho hb hg hat; obtain ⟨Ao42, co42, eo42⟩ := Kd.R_slice HO169.out; subst eo42; have hcz43_0 : w41.cell? ⟨gb164, 0, none⟩ = some (u165000) := (zL BK164.out 0).trans rfl; have hcz43_1 : w41.cell? ⟨gb164, 1, none⟩ = some (.int .i64 0) := (zL BK164.out 1).trans rfl; have hcz43_2 : w41.cell? ⟨gb164, 2, none⟩ = some (.int .i64 0) := (zL BK164.out 2).trans rfl; have hfz43_0 := zF BK164.out 0; have hfz43_1 := zF BK164.out 1; have hfz43_2 := zF BK164.out 2))
      go_roundg k1
      case measure => have := HK1.out; omega
      case rel => exact ⟨(wrap64 (x27_1 + 1)), (y167), (.slice Ao42 y167.length co42), (by first | rfl | (simp; done) | (simp [*]; done) | (simp; grind)), H', ⟨by have := HK1.out; omega⟩, ⟨by (with_reducible repeat (first | apply Kd.R_alloc | apply Kd.R_drewN | apply Kd.R_drew)); exact Kd.R_mono (Kd.R_far (p := ⟨gb164, 0, none⟩) (Kd.R_types HO169.out BK164.out (by decide)) (fun _ hk => hk.2) (.slice Ao42 y167.length co42)) (fun _ hk => hk.1.1)⟩, ⟨blf_⟩, ⟨blf_⟩, ⟨blf_⟩, ⟨by (with_reducible repeat (first | refine zN ?_ _ | refine zD ?_ | refine zA ?_ _)); refine blk_put (cs := #[u165000, .int .i64 0, .int .i64 0]) ?_ 0 _ rfl; (with_reducible repeat (first | refine zN ?_ _ | refine zD ?_ | refine zA ?_ _)); exact BK164.out⟩, ⟨bel_⟩⟩
    rw [if_neg c23] at H
    have c23b0 : decide (x27_1 < (l0_0.length : Int)) = false := decide_eq_false c23
    clear c23
    replace H := Option.bind_eq_some_iff.mp H
    obtain ⟨⟨t170, t171⟩, A540, H⟩ := H
    replace H : ((change_Join.f k1 (([(⟨a0_1, a0_2⟩ : S24), (⟨t170, t171⟩ : S24)] : List (S24)))).bind fun bt175 => (front_Step.l1 k1 l2 (l2.length : Int) 0 a1_0 a1_1 x165000_1 bt175.1 bt175.2)) = some (r1, r2, r3) := H
    have A54 := zM A540
    clear A540
    obtain ⟨y172, hy172⟩ : ∃ y_ : List (S24), y_ = (([(⟨a0_1, a0_2⟩ : S24), (⟨t170, t171⟩ : S24)] : List (S24))) := ⟨_, rfl⟩
    replace H : ((change_Join.f k1 y172).bind fun bt175 => (front_Step.l1 k1 l2 (l2.length : Int) 0 a1_0 a1_1 x165000_1 bt175.1 bt175.2)) = some (r1, r2, r3) := by first | (rw [hy172]; with_reducible exact H) | (have H2_ := (Option.bind_some _ _).symm.trans H; rw [hy172]; with_reducible exact H2_) | (have H2_ := (Option.bind_some _ _).symm.trans H; with_reducible exact H2_) | with_reducible exact H | (rw [hy172]; exact H) | exact H
    have Ny172 := zM hy172
    clear hy172
    replace H := Option.bind_eq_some_iff.mp H
    obtain ⟨⟨t175, t176⟩, A550, H⟩ := H
    replace H : (front_Step.l1 k1 l2 (l2.length : Int) 0 a1_0 a1_1 x165000_1 t175 t176) = some (r1, r2, r3) := H
    have A55 := zM A550
    clear A550
    have H' := zM H
    clear H
    try go_wp2_with (first | go_step3 | go_in)
    replace HO_165000 := zM (Kd.R_drew HO_165000.out)
    replace BK158 := zM (zD BK158.out)
    replace BK159 := zM (zD BK159.out)
    replace BK160 := zM (zD BK160.out)
    replace BK164 := zM (zD BK164.out)
    replace HB := zM (below_drew1 HB.out)
    refine start_ (n := 8) (S := fun w' => w'.cell? ⟨gb158, 0, none⟩ = some (.slice A0_0 l0_0.length c0_0) ∧ w'.cell? ⟨gb158, 1, none⟩ = some (.int .i64 a0_1) ∧ w'.cell? ⟨gb158, 2, none⟩ = some (.int .i64 a0_2)) (ds := []) #[F_, F_, F_, F_, F_, F_, F_, F_] (by kernel_rfl) rfl rfl ⟨(zL BK158.out 0).trans rfl, (zL BK158.out 1).trans rfl, (zL BK158.out 2).trans rfl⟩ (fun hHeld => ?_); refine with_tabW front_Step.tab10 front_Step.bits10 (fun HT_ HW_ => ?_)
    generalize wr.drew = w56 at HO_165000 BK158 BK159 BK160 BK164 HB hHeld ⊢
    refine pure_ (i := 0) (N := some 41) (v := ?_) (a' := ?_) #[T_, F_, F_, F_, F_, F_, F_, F_] rfl rfl (any_of HT_.out (by kernel_rfl)) (fun _ _ _ h => h) (Or.inl ⟨by rfl, ?_⟩) ?_ ?_
    rotate_left
    · intro w'
      go_simp
      with_reducible rfl
    rotate_left
    · simp only [Act.put, zS, zZ, zC, i64_w, i32_w]
      rfl
    refine pure_ (i := 2) (N := some 43) (v := ?_) (a' := ?_) #[T_, F_, T_, F_, F_, F_, F_, F_] rfl rfl (any_of HT_.out (by kernel_rfl)) (fun _ _ _ h => h) (Or.inl ⟨by rfl, ?_⟩) ?_ ?_
    rotate_left
    · intro w'
      go_simp
      with_reducible rfl
    rotate_left
    · simp only [Act.put, zS, zZ, zC, i64_w, i32_w]
      rfl
    refine take_ (i := 1) (N := some 42) (v := ?_) (a' := ?_) #[T_, T_, T_, F_, F_, F_, F_, F_] rfl rfl (take_ofW HT_.out HW_.out (by kernel_rfl)) (fun _ _ _ h => h) (Or.inl ⟨by rfl, ?_⟩) hHeld ?_ ?_
    rotate_left
    · rintro w' ⟨s0, s1, s2⟩
      go_simp
      with_reducible rfl
    rotate_left
    · simp only [Act.put, zS, zZ, zC, i64_w, i32_w]
      rfl
    refine one_ (i := 3) (N := some 44) #[T_, T_, T_, T_, F_, F_, F_, F_] rfl rfl (one_of HT_.out (by kernel_rfl)) (by decide) (fun K hK => ?_)
    refine goes_ Try.func22 (by kernel_rfl) rfl #[.slice A2 l2.length c2] (by rfl) rfl rfl (by (try simp only [List.map_toArray, List.map_cons, List.map_nil]); first | done | rfl | (simp only [List.length_drop, List.length_take]; rfl)) ?_
    with_reducible refine (change_Join.calls k1 _ _ l2 t170 t171 _ ?side1 ?side2 A54.out).mono ?_
    (case side1 => repeat (first | exact (Kd.C_below HR2.out HB.out) | (with_reducible refine Kd.C_alloc ?_ _) | (with_reducible refine Kd.C_drewN ?_ _) | (with_reducible refine Kd.C_drew ?_)))
    (case side2 => exact HC2.out)
    rintro e w57 ⟨rfl, hb⟩
    refine ⟨_, rfl, ?_⟩
    replace HO_165000 := zM (Kd.R_below (rl_ HO_165000) hb)
    replace BK158 := zM (bb_ BK158 hb)
    replace BK159 := zM (bb_ BK159 hb)
    replace BK160 := zM (bb_ BK160 hb)
    replace BK164 := zM (bb_ BK164 hb)
    replace HB := zM (zB bel_ hb)
    (try clear hb)
    (try clear hb2)
    (try clear hk)
    (try clear hi)
    refine hK.out _ _ ⟨(zL BK158.out 0).trans rfl, (zL BK158.out 1).trans rfl, (zL BK158.out 2).trans rfl⟩ (fun hHeld => ?_)
    clear hK K
    refine norm_ (a' := ?_) ?_ ?_
    rotate_left
    · show Act.put _ (some 44) _ = _
      simp only [Act.put, zS, zZ, zC, i64_w, i32_w]
      rfl
    refine one_ (i := 4) (N := some 45) #[T_, T_, T_, T_, T_, F_, F_, F_] rfl rfl (one_of HT_.out (by kernel_rfl)) (by decide) (fun K hK => ?_)
    refine Kd.R_lit_step k24 _ 24 ?hg (N := 45) ?hd (xs := ([(⟨a0_1, a0_2⟩ : S24), (⟨t170, t171⟩ : S24)] : List (S24))) (inner := [.int .i64 a0_1, .int .i64 a0_2, .int .i64 t170, .int .i64 t171]) (ok := fun _ => True) (okp := fun _ => True) ?hr ?hp (fun _ hk => hk) trivial (Below.refl _ _) (Nat.le_refl _) (by simp) ?_; (case hd => rfl); (case hg => rfl); (case hr => first | (go_simp; done) | (go_simp; rfl)); (case hp => exact (Reps.c2 (show Kd.M k24 _ _ _ (⟨a0_1, a0_2⟩ : S24) [.int .i64 a0_1, .int .i64 a0_2] from (k24_mkM _ _ _ (⟨a0_1, a0_2⟩ : S24) )) (Reps.c2 (show Kd.M k24 _ _ _ (⟨t170, t171⟩ : S24) [.int .i64 t170, .int .i64 t171] from (k24_mkM _ _ _ (⟨t170, t171⟩ : S24) )) (Reps.none _ _))))
    intro v173 w58 ho59 hb hg_ hnew_
    clear hg_ hnew_
    (first | rw [← Ny172.out] at ho59 | (simp only [Int.reduceToNat] at ho59; rw [← Ny172.out] at ho59))
    have HO174 := zM (Kd.R_lower (Kd.R_newB (Kd.R_new' ho59 (Kd.R_lt (rl_ HO_165000))) (g := gb159) (o := .cells #[.int .i64 a1_0, .int .i64 a1_1] 24 (0, 0)) blk_) (below_size bel_))
    replace HO_165000 := zM (Kd.R_elder' (rl_ HO_165000) (Kd.R_base ho59) hb)
    replace BK158 := zM (bb_ BK158 hb)
    replace BK159 := zM (bb_ BK159 hb)
    replace BK160 := zM (bb_ BK160 hb)
    replace BK164 := zM (bb_ BK164 hb)
    replace HB := zM (zB bel_ hb)
    clear hb ho59
    obtain ⟨Ao60, co60, eo60⟩ := Kd.R_slice HO174.out
    (first | subst eo60 | (injection eo60 with f1_ f2_ f3_; have f4_ := f1_.symm; have f5_ := f3_.symm; clear f1_ f2_ f3_; subst f4_; subst f5_))
    refine hK.out _ _ ⟨(zL BK158.out 0).trans rfl, (zL BK158.out 1).trans rfl, (zL BK158.out 2).trans rfl⟩ (fun hHeld => ?_)
    clear hK K
    refine norm_ (a' := ?_) ?_ ?_
    rotate_left
    · show Act.put _ (some 45) _ = _
      simp only [Act.put, zS, zZ, zC, i64_w, i32_w]
      rfl
    refine one_ (i := 5) (N := some 46) #[T_, T_, T_, T_, T_, T_, F_, F_] rfl rfl (one_of HT_.out (by kernel_rfl)) (by decide) (fun K hK => ?_)
    refine goes_ Try.func22 (by kernel_rfl) rfl #[.slice Ao60 y172.length co60] (by rfl) rfl rfl (by (try simp only [List.map_toArray, List.map_cons, List.map_nil]); first | done | rfl | (simp only [List.length_drop, List.length_take]; rfl)) ?_
    with_reducible refine (change_Join.calls k1 _ _ y172 t175 t176 _ ?side1 ?side2 A55.out).mono ?_
    (case side1 => repeat (first | exact (Kd.R_reads' HO174.out).2.2 | (with_reducible refine Kd.C_alloc ?_ _) | (with_reducible refine Kd.C_drewN ?_ _) | (with_reducible refine Kd.C_drew ?_)))
    (case side2 => exact (Kd.R_reads' HO174.out).2.1)
    rintro e w61 ⟨rfl, hb⟩
    refine ⟨_, rfl, ?_⟩
    replace HO_165000 := zM (Kd.R_below (rl_ HO_165000) hb)
    replace HO174 := zM (Kd.R_below (rl_ HO174) hb)
    replace BK158 := zM (bb_ BK158 hb)
    replace BK159 := zM (bb_ BK159 hb)
    replace BK160 := zM (bb_ BK160 hb)
    replace BK164 := zM (bb_ BK164 hb)
    replace HB := zM (zB bel_ hb)
    (try clear hb)
    (try clear hb2)
    (try clear hk)
    (try clear hi)
    refine hK.out _ _ ⟨(zL BK158.out 0).trans rfl, (zL BK158.out 1).trans rfl, (zL BK158.out 2).trans rfl⟩ (fun hHeld => ?_)
    clear hK K
    refine norm_ (a' := ?_) ?_ ?_
    rotate_left
    · show Act.put _ (some 46) _ = _
      simp only [Act.put, zS, zZ, zC, i64_w, i32_w]
      rfl
    refine pure_ (i := 6) (N := some 47) (v := ?_) (a' := ?_) #[T_, T_, T_, T_, T_, T_, T_, F_] rfl rfl (any_of HT_.out (by kernel_rfl)) (fun _ _ _ h => h) (Or.inl ⟨by rfl, ?_⟩) ?_ ?_
    rotate_left
    · intro w'
      go_simp
      with_reducible rfl
    rotate_left
    · simp only [Act.put, zS, zZ, zC, i64_w, i32_w]
      rfl
    refine one_ (i := 7) (N := none) #[T_, T_, T_, T_, T_, T_, T_, T_] rfl rfl (one_of HT_.out (by kernel_rfl)) (by decide) (fun K hK => ?_)
    have hs62 : w61.cell? ⟨gb164, 1, none⟩ = some (.int .i64 0) := (zL BK164.out 1).trans rfl
    have hfs62 := zF BK164.out 1
    have hns62_0 := NB158_164.out
    have hns62_1 := NB159_164.out
    have hns62_2 := NB160_164.out
    have hms62_0 := NB164_158.out
    have hms62_1 := NB164_159.out
    have hms62_2 := NB164_160.out
    have hs63 : w61.cell? ⟨gb164, 2, none⟩ = some (.int .i64 0) := (zL BK164.out 2).trans rfl
    have hfs63 := zF BK164.out 2
    have hns63_0 := NB158_164.out
    have hns63_1 := NB159_164.out
    have hns63_2 := NB160_164.out
    have hms63_0 := NB164_158.out
    have hms63_1 := NB164_159.out
    have hms63_2 := NB164_160.out
    refine skip_ (w1 := ?_) (by rfl) rfl ?_ ?_
    rotate_left
    · go_simp
      rfl
    refine hK.out _ _ ⟨((cell_far (p := ⟨gb164, _, none⟩) NB158_164.out _).trans (((cell_far (p := ⟨gb164, _, none⟩) NB158_164.out _).trans (hHeld.1)))), ((cell_far (p := ⟨gb164, _, none⟩) NB158_164.out _).trans (((cell_far (p := ⟨gb164, _, none⟩) NB158_164.out _).trans (hHeld.2.1)))), ((cell_far (p := ⟨gb164, _, none⟩) NB158_164.out _).trans (((cell_far (p := ⟨gb164, _, none⟩) NB158_164.out _).trans (hHeld.2.2))))⟩ (fun hHeld => ?_)
    clear hK K
    refine done_ (done_of HT_.out (by kernel_rfl)) ?_
    try go_wp2_with (first | go_step3 | go_in)
    go_loopg [50] k1 (fun kq v50 w' => ∃ (x50_2 : Int) (x165000_2 : List (S24)) (u165000 : Value), v50 = .int .i64 x50_2 ∧ Aside0 (front_Step.l1 kq l2 (l2.length : Int) x50_2 a1_0 a1_1 x165000_2 t175 t176 = some (r1, r2, r3)) ∧ Aside0 (kq ≤ k1) ∧ Aside0 (Kd.R k24 24 w' w.heap.size (fun k_ => k_ ≠ gb159) u165000 x165000_2) ∧ Aside0 (w'.heap[gb158]? = some (.cells #[(.slice A0_0 l0_0.length c0_0), .int .i64 a0_1, .int .i64 a0_2] 26 (0, 0))) ∧ Aside0 (w'.heap[gb159]? = some (.cells #[.int .i64 a1_0, .int .i64 a1_1] 24 (0, 0))) ∧ Aside0 (w'.heap[gb160]? = some (.cells #[(.slice none 0 0), .int .i64 0, .int .i64 0] 26 (0, 0))) ∧ Aside0 (w'.heap[gb164]? = some (.cells #[u165000, .int .i64 t175, .int .i64 t176] 26 (0, 0))) ∧ Aside0 (Below w.heap.size w w'))
    case atStart => exact ⟨(0), (x165000_1), (u165000), (by first | rfl | (simp; done) | (simp [*]; done) | (simp; grind)), H', ⟨Nat.le_refl _⟩, ⟨by (with_reducible repeat (first | apply Kd.R_alloc | apply Kd.R_drewN | apply Kd.R_drew)); exact Kd.R_mono (Kd.R_far (p := ⟨gb164, 2, none⟩) (Kd.R_far (p := ⟨gb164, 1, none⟩) (Kd.R_types HO_165000.out BK164.out (by decide)) (fun _ hk => hk.2) (.int .i64 t175)) (fun _ hk => hk.2) (.int .i64 t176)) (fun _ hk => hk.1.1)⟩, ⟨blf_⟩, ⟨blf_⟩, ⟨blf_⟩, ⟨by (with_reducible repeat (first | refine zN ?_ _ | refine zD ?_ | refine zA ?_ _)); refine blk_put (cs := #[u165000, .int .i64 t175, .int .i64 0]) ?_ 2 _ rfl; (with_reducible repeat (first | refine zN ?_ _ | refine zD ?_ | refine zA ?_ _)); refine blk_put (cs := #[u165000, .int .i64 0, .int .i64 0]) ?_ 1 _ rfl; (with_reducible repeat (first | refine zN ?_ _ | refine zD ?_ | refine zA ?_ _)); exact BK164.out⟩, ⟨bel_⟩⟩
    case round =>
     clear H'
     try clear c1
     try clear p1
     try clear q1
     try clear hx1
     try clear c2
     try clear p2
     try clear c3
     try clear c4
     try clear c4b0
     try clear c4b1
     try clear c4b2
     try clear c5
     try clear p6
     try clear c14
     try clear p16
     try clear q16
     try clear hx16
     try clear c19
     try clear c20
     try clear c21
     try clear c22
     try clear c23
     try clear c23b0
     try clear c24
     try clear c24b0
     try clear c25
     try clear c25b0
     try clear c26
     try clear c26b0
     try clear c27
     try clear c29
     try clear c30
     try clear c31
     try clear c32
     try clear c34
     try clear c35
     try clear c36
     try clear c38
     try clear c39
     try clear c45
     try clear c46
     try clear c47
     try clear c48
     try clear c50
     try clear c51
     try clear c52
     try clear hcz22_0
     try clear hcz22_1
     try clear hcz22_2
     try clear hcz33_0
     try clear hcz33_1
     try clear hcz37_0
     try clear hcz37_1
     try clear hcz40_0
     try clear hcz40_1
     try clear hcz40_2
     try clear hcz43_0
     try clear hcz43_1
     try clear hcz43_2
     try clear hcz49_0
     try clear hcz49_1
     try clear hcz53_0
     try clear hcz53_1
     try clear hfz22_0
     try clear hfz22_1
     try clear hfz22_2
     try clear hfz33_0
     try clear hfz33_1
     try clear hfz37_0
     try clear hfz37_1
     try clear hfz40_0
     try clear hfz40_1
     try clear hfz40_2
     try clear hfz43_0
     try clear hfz43_1
     try clear hfz43_2
     try clear hfz49_0
     try clear hfz49_1
     try clear hfz53_0
     try clear hfz53_1
     try clear hx165_0
     try clear hx165_1
     try clear p165
     try clear p2
     try clear q165
     try clear HO_165000
     try clear BK158
     try clear BK159
     try clear BK160
     try clear BK164
     try clear HB
     obtain ⟨x50_2, x165000_2, u165000, rfl, HA, HK2, HO_165000, BK158, BK159, BK160, BK164, HB⟩ := hrel
     cases gk with
     | zero => exact absurd HA.out (by simp [front_Step.l1])
     | succ k2 =>
      have H := HA.out
      clear HA
      simp only [front_Step.l1] at H
      by_cases c64 : x50_2 < (l2.length : Int)
      rotate_left
      · rw [if_neg c64] at H
        have c64b0 : decide (x50_2 < (l2.length : Int)) = false := decide_eq_false c64
        clear c64
        simp only [Option.some.injEq, Prod.mk.injEq] at H
        obtain ⟨rfl, rfl, rfl⟩ := H
        have hnb172 := NB164_158.out
        have hnc172 := NB158_164.out
        have hnb173 := NB164_159.out
        have hnc173 := NB159_164.out
        have hnb174 := NB164_160.out
        have hnc174 := NB160_164.out
        have hcz175_0 : wr.cell? ⟨gb164, 0, none⟩ = some (u165000) := (zL BK164.out 0).trans rfl
        have hcz175_1 : wr.cell? ⟨gb164, 1, none⟩ = some (.int .i64 t175) := (zL BK164.out 1).trans rfl
        have hcz175_2 : wr.cell? ⟨gb164, 2, none⟩ = some (.int .i64 t176) := (zL BK164.out 2).trans rfl
        have hfz175_0 := zF BK164.out 0
        have hfz175_1 := zF BK164.out 1
        have hfz175_2 := zF BK164.out 2
        obtain ⟨Ao176, co176, eo176⟩ := Kd.R_slice HO_165000.out
        subst eo176
        have hnb177 := NB160_158.out
        have hnc177 := NB158_160.out
        have hnb178 := NB160_159.out
        have hnc178 := NB159_160.out
        have hcz179_0 : wr.cell? ⟨gb160, 0, none⟩ = some (.slice none 0 0) := (zL BK160.out 0).trans rfl
        have hcz179_1 : wr.cell? ⟨gb160, 1, none⟩ = some (.int .i64 0) := (zL BK160.out 1).trans rfl
        have hcz179_2 : wr.cell? ⟨gb160, 2, none⟩ = some (.int .i64 0) := (zL BK160.out 2).trans rfl
        have hfz179_0 := zF BK160.out 0
        have hfz179_1 := zF BK160.out 1
        have hfz179_2 := zF BK160.out 2
        go_wp2_with (first | go_step3 | go_in)
        (try rw [Exit.noGoto_ret])
        refine bodyPost_ret (results_cell_row rfl _ _ gb160 26 #[.slice Ao176 x165000_2.length co176, .int .i64 t175, .int .i64 t176] (0, 0) _ rfl (by (with_reducible repeat (first | refine zN ?_ _ | refine zD ?_ | refine zA ?_ _)); refine blk_put (cs := #[.slice Ao176 x165000_2.length co176, .int .i64 t175, .int .i64 0]) ?_ 2 _ rfl; (with_reducible repeat (first | refine zN ?_ _ | refine zD ?_ | refine zA ?_ _)); refine blk_put (cs := #[.slice Ao176 x165000_2.length co176, .int .i64 0, .int .i64 0]) ?_ 1 _ rfl; (with_reducible repeat (first | refine zN ?_ _ | refine zD ?_ | refine zA ?_ _)); refine blk_put (cs := #[.slice none 0 0, .int .i64 0, .int .i64 0]) ?_ 0 _ rfl; (with_reducible repeat (first | refine zN ?_ _ | refine zD ?_ | refine zA ?_ _)); exact BK160.out) Try.underlying26 rfl (by kernel_rfl)) rfl ?_
        exact ⟨_, by first | rfl | (simp [errW_none, errW_some] <;> rfl) | (simp [*, errW_none, errW_some] <;> rfl), by (with_reducible repeat (first | apply Kd.R_alloc | apply Kd.R_drewN | apply Kd.R_drew)); exact Kd.R_mono (Kd.R_far (p := ⟨gb160, 2, none⟩) (Kd.R_far (p := ⟨gb160, 1, none⟩) (Kd.R_far (p := ⟨gb160, 0, none⟩) (Kd.R_types HO_165000.out BK160.out (by decide)) (fun _ hk => hk.2) (.slice Ao176 x165000_2.length co176)) (fun _ hk => hk.2) (.int .i64 t175)) (fun _ hk => hk.2) (.int .i64 t176)) (fun _ hk => trivial), bel_⟩
      rw [if_pos c64] at H
      have c64b0 : decide (x50_2 < (l2.length : Int)) = true := decide_eq_true c64
      clear c64
      by_cases c65 : 0 ≤ x50_2
      rotate_left
      · rw [if_neg c65] at H
        exact absurd H (by simp)
      rw [if_pos c65] at H
      have c65b0 : decide (0 ≤ x50_2) = true := decide_eq_true c65
      clear c65
      by_cases c66 : x50_2 < (l2.length : Int)
      rotate_left
      · rw [if_neg c66] at H
        exact absurd H (by simp)
      rw [if_pos c66] at H
      have c66b0 : decide (x50_2 < (l2.length : Int)) = true := decide_eq_true c66
      clear c66
      obtain ⟨y179, hy179⟩ : ∃ y_ : List (S24), y_ = (([(⟨a1_0, a1_1⟩ : S24), (⟨(rd_T24 l2 x50_2).f0, (rd_T24 l2 x50_2).f1⟩ : S24)] : List (S24))) := ⟨_, rfl⟩
      replace H : ((change_Join.f k2 y179).bind fun bt182 => (front_Step.l2 k2 l2 (l2.length : Int) x50_2 x165000_2 (x165000_2.length : Int) 0 a1_0 a1_1 x165000_2 t175 t176 bt182.1 bt182.2)) = some (r1, r2, r3) := by first | (rw [hy179]; with_reducible exact H) | (have H2_ := (Option.bind_some _ _).symm.trans H; rw [hy179]; with_reducible exact H2_) | (have H2_ := (Option.bind_some _ _).symm.trans H; with_reducible exact H2_) | with_reducible exact H | (rw [hy179]; exact H) | exact H
      have Ny179 := zM hy179
      clear hy179
      replace H := Option.bind_eq_some_iff.mp H
      obtain ⟨⟨t182, t183⟩, A670, H⟩ := H
      replace H : (front_Step.l2 k2 l2 (l2.length : Int) x50_2 x165000_2 (x165000_2.length : Int) 0 a1_0 a1_1 x165000_2 t175 t176 t182 t183) = some (r1, r2, r3) := H
      have A67 := zM A670
      clear A670
      have H' := zM H
      clear H
      have p177 : 0 ≤ (x50_2 : Int) := of_decide_eq_true (by first | (with_reducible assumption) | assumption)
      have q177 : x50_2 < (l2.length : Int) := of_decide_eq_true (by first | (with_reducible assumption) | assumption)
      obtain ⟨ad177, e177, hx177_0, hx177_1⟩ := at_T24 HR2.out x50_2 p177 q177
      cases e177
      replace hx177_0 := (HB.out.cell (World.block_lt_of_cell? w _ hx177_0)).trans hx177_0
      replace hx177_1 := (HB.out.cell (World.block_lt_of_cell? w _ hx177_1)).trans hx177_1
      replace p177 := eq_true p177
      replace q177 := eq_true q177
      go_wp2_with (first | go_step3 | ((with_reducible refine gate_dst (N := 11) rfl ?_); refine box_event ?hg (N := 11) ?hd (cs := #[.int .i64 0, .int .i64 0]) (t := 24) ?hr ?_; (case hd => rfl); (case hg => rfl); (case hr => first | (go_simp; done) | (go_simp; rfl)); intro gb178 hg w68 hbox hb; replace HO_165000 := zM (Kd.R_below (Kd.R_elderB (rl_ HO_165000) gb178 (Nat.le_of_eq hg.symm)) hb); have BK178 := zM (hbox); have GW178 := zM (bs_ hg); have GE178 := zM (bs_ hg); replace HB := zM (zB bel_ hb); have NB158_178 := zM (nl_ BK158 hg); have NB178_158 := zM (ng_ BK158 hg); replace BK158 := zM (bb_ BK158 hb); have NB159_178 := zM (nl_ BK159 hg); have NB178_159 := zM (ng_ BK159 hg); replace BK159 := zM (bb_ BK159 hb); have NB160_178 := zM (nl_ BK160 hg); have NB178_160 := zM (ng_ BK160 hg); replace BK160 := zM (bb_ BK160 hb); have NB164_178 := zM (nl_ BK164 hg); have NB178_164 := zM (ng_ BK164 hg); replace BK164 := zM (bb_ BK164 hb); clear hb hbox hg; have hnb69 := NB178_158.out; have hnc69 := NB158_178.out; have hnb70 := NB178_159.out; have hnc70 := NB159_178.out; have hnb71 := NB178_160.out; have hnc71 := NB160_178.out; have hnb72 := NB178_164.out; have hnc72 := NB164_178.out; have hcz73_0 : w68.cell? ⟨gb178, 0, none⟩ = some (.int .i64 0) := (zL BK178.out 0).trans rfl; have hcz73_1 : w68.cell? ⟨gb178, 1, none⟩ = some (.int .i64 0) := (zL BK178.out 1).trans rfl; have hfz73_0 := zF BK178.out 0; have hfz73_1 := zF BK178.out 1; have hnb74 := NB159_158.out; have hnc74 := NB158_159.out; have hnb75 := NB159_160.out; have hnc75 := NB160_159.out; have hnb76 := NB159_164.out; have hnc76 := NB164_159.out; have hcz77_0 : w68.cell? ⟨gb159, 0, none⟩ = some (.int .i64 a1_0) := (zL BK159.out 0).trans rfl; have hcz77_1 : w68.cell? ⟨gb159, 1, none⟩ = some (.int .i64 a1_1) := (zL BK159.out 1).trans rfl; have hfz77_0 := zF BK159.out 0; have hfz77_1 := zF BK159.out 1) | ((with_reducible refine gate_dst (N := 56) rfl ?_); refine Kd.R_lit k24 _ 24 ?hg (N := 56) ?hd (xs := ([(⟨a1_0, a1_1⟩ : S24), (⟨(rd_T24 l2 x50_2).f0, (rd_T24 l2 x50_2).f1⟩ : S24)] : List (S24))) (inner := [.int .i64 a1_0, .int .i64 a1_1, .int .i64 ((rd_T24 l2 x50_2).f0), .int .i64 ((rd_T24 l2 x50_2).f1)]) (ok := fun _ => True) (okp := fun _ => True) ?hr ?hp (fun _ hk => hk) trivial (Below.refl _ _) (Nat.le_refl _) (by simp) ?_; (case hd => rfl); (case hg => rfl); (case hr => first | (go_simp; done) | (go_simp; rfl)); (case hp => exact (Reps.c2 (show Kd.M k24 _ _ _ (⟨a1_0, a1_1⟩ : S24) [.int .i64 a1_0, .int .i64 a1_1] from (k24_mkM _ _ _ (⟨a1_0, a1_1⟩ : S24) )) (Reps.c2 (show Kd.M k24 _ _ _ (⟨(rd_T24 l2 x50_2).f0, (rd_T24 l2 x50_2).f1⟩ : S24) [.int .i64 ((rd_T24 l2 x50_2).f0), .int .i64 ((rd_T24 l2 x50_2).f1)] from (k24_mkM _ _ _ (⟨(rd_T24 l2 x50_2).f0, (rd_T24 l2 x50_2).f1⟩ : S24) )) (Reps.none _ _)))); intro v180 w78 ho79 hb hg_ hnew_; clear hg_ hnew_; (first | rw [← Ny179.out] at ho79 | (simp only [Int.reduceToNat] at ho79; rw [← Ny179.out] at ho79)); have n0_ := zM (Kd.R_elder' (by (with_reducible repeat (first | apply Kd.R_alloc | apply Kd.R_drewN | apply Kd.R_drew)); exact (Kd.R_mono (Kd.R_far (p := ⟨gb178, 1, none⟩) (Kd.R_far (p := ⟨gb178, 0, none⟩) (Kd.R_mono HO_165000.out (fun k_ hk => (⟨hk, hk.2⟩ : _ ∧ k_ ≠ gb178))) (fun _ hk => hk.2) (.int .i64 ((rd_T24 l2 x50_2).f0))) (fun _ hk => hk.2) (.int .i64 ((rd_T24 l2 x50_2).f1))) (fun _ h_ => h_.1))) (Kd.R_base ho79) hb); have n1_ := zM (Kd.R_lower (Kd.R_newB (Kd.R_newB (Kd.R_new' ho79 (Kd.R_lt (by (with_reducible repeat (first | apply Kd.R_alloc | apply Kd.R_drewN | apply Kd.R_drew)); exact (Kd.R_mono (Kd.R_far (p := ⟨gb178, 1, none⟩) (Kd.R_far (p := ⟨gb178, 0, none⟩) (Kd.R_mono HO_165000.out (fun k_ hk => (⟨hk, hk.2⟩ : _ ∧ k_ ≠ gb178))) (fun _ hk => hk.2) (.int .i64 ((rd_T24 l2 x50_2).f0))) (fun _ hk => hk.2) (.int .i64 ((rd_T24 l2 x50_2).f1))) (fun _ h_ => h_.1))))) (g := gb159) (o := .cells #[.int .i64 a1_0, .int .i64 a1_1] 24 (0, 0)) blf_) (g := gb178) (o := .cells #[.int .i64 ((rd_T24 l2 x50_2).f0), .int .i64 ((rd_T24 l2 x50_2).f1)] 24 (0, 0)) (by (with_reducible repeat (first | refine zN ?_ _ | refine zD ?_ | refine zA ?_ _)); refine blk_put (cs := #[.int .i64 ((rd_T24 l2 x50_2).f0), .int .i64 0]) ?_ 1 _ rfl; (with_reducible repeat (first | refine zN ?_ _ | refine zD ?_ | refine zA ?_ _)); refine blk_put (cs := #[.int .i64 0, .int .i64 0]) ?_ 0 _ rfl; (with_reducible repeat (first | refine zN ?_ _ | refine zD ?_ | refine zA ?_ _)); exact BK178.out)) (below_size bel_)); have n2_ := zM (blk_below (g := gb158) (o := .cells #[.slice A0_0 l0_0.length c0_0, .int .i64 a0_1, .int .i64 a0_2] 26 (0, 0)) blf_ hb); have n3_ := zM (blk_below (g := gb159) (o := .cells #[.int .i64 a1_0, .int .i64 a1_1] 24 (0, 0)) blf_ hb); have n4_ := zM (blk_below (g := gb160) (o := .cells #[.slice none 0 0, .int .i64 0, .int .i64 0] 26 (0, 0)) blf_ hb); have n5_ := zM (blk_below (g := gb164) (o := .cells #[u165000, .int .i64 t175, .int .i64 t176] 26 (0, 0)) blf_ hb); have n6_ := zM (blk_below (g := gb178) (o := .cells #[.int .i64 ((rd_T24 l2 x50_2).f0), .int .i64 ((rd_T24 l2 x50_2).f1)] 24 (0, 0)) (by (with_reducible repeat (first | refine zN ?_ _ | refine zD ?_ | refine zA ?_ _)); refine blk_put (cs := #[.int .i64 ((rd_T24 l2 x50_2).f0), .int .i64 0]) ?_ 1 _ rfl; (with_reducible repeat (first | refine zN ?_ _ | refine zD ?_ | refine zA ?_ _)); refine blk_put (cs := #[.int .i64 0, .int .i64 0]) ?_ 0 _ rfl; (with_reducible repeat (first | refine zN ?_ _ | refine zD ?_ | refine zA ?_ _)); exact BK178.out) hb); have n7_ := zM (zB bel_ hb); clear HO_165000; clear BK158; clear BK159; clear BK160; clear BK164; clear BK178; clear HB; have HO_165000 := n0_; have HO181 := n1_; have BK158 := n2_; have BK159 := n3_; have BK160 := n4_; have BK164 := n5_; have BK178 := n6_; have HB := n7_; clear n0_ n1_ n2_ n3_ n4_ n5_ n6_ n7_; clear hb ho79; obtain ⟨Ao80, co80, eo80⟩ := Kd.R_slice HO181.out; subst eo80) | ((with_reducible refine gate_callee (f := 22) rfl ?_); refine goL_ (some 57) Try.func22 #[.slice Ao80 y179.length co80] ?_; (with_reducible refine (change_Join.calls k2 _ _ y179 t182 t183 _ ?side1 ?side2 A67.out).mono ?_); (case side1 => repeat (first | exact (Kd.R_reads' HO181.out).2.2 | (with_reducible refine Kd.C_alloc ?_ _) | (with_reducible refine Kd.C_drewN ?_ _) | (with_reducible refine Kd.C_drew ?_))); (case side2 => exact (Kd.R_reads' HO181.out).2.1); rintro e w81 ⟨rfl, hb⟩; refine ⟨_, rfl, ?_⟩; replace HO_165000 := zM (Kd.R_below (rl_ HO_165000) hb); replace HO181 := zM (Kd.R_below (rl_ HO181) hb); replace BK158 := zM (bb_ BK158 hb); replace BK159 := zM (bb_ BK159 hb); replace BK160 := zM (bb_ BK160 hb); replace BK164 := zM (bb_ BK164 hb); replace BK178 := zM (bb_ BK178 hb); replace HB := zM (zB bel_ hb); (try clear hb); (try clear hb2); (try clear hk); (try clear hi)) | ((with_reducible refine gate_dst (N := 12) rfl ?_); refine box_event ?hg (N := 12) ?hd (cs := #[.int .i64 0, .int .i64 0]) (t := 24) ?hr ?_; (case hd => rfl); (case hg => rfl); (case hr => first | (go_simp; done) | (go_simp; rfl)); intro gb184 hg w82 hbox hb; replace HO_165000 := zM (Kd.R_below (Kd.R_elderB (rl_ HO_165000) gb184 (Nat.le_of_eq hg.symm)) hb); replace HO181 := zM (Kd.R_below (Kd.R_elderB (rl_ HO181) gb184 (Nat.le_of_eq hg.symm)) hb); have BK184 := zM (hbox); have GW184 := zM (bs_ hg); have GE184 := zM (bs_ hg); replace HB := zM (zB bel_ hb); have NB158_184 := zM (nl_ BK158 hg); have NB184_158 := zM (ng_ BK158 hg); replace BK158 := zM (bb_ BK158 hb); have NB159_184 := zM (nl_ BK159 hg); have NB184_159 := zM (ng_ BK159 hg); replace BK159 := zM (bb_ BK159 hb); have NB160_184 := zM (nl_ BK160 hg); have NB184_160 := zM (ng_ BK160 hg); replace BK160 := zM (bb_ BK160 hb); have NB164_184 := zM (nl_ BK164 hg); have NB184_164 := zM (ng_ BK164 hg); replace BK164 := zM (bb_ BK164 hb); have NB178_184 := zM (nl_ BK178 hg); have NB184_178 := zM (ng_ BK178 hg); replace BK178 := zM (bb_ BK178 hb); clear hb hbox hg; have hnb83 := NB184_158.out; have hnc83 := NB158_184.out; have hnb84 := NB184_159.out; have hnc84 := NB159_184.out; have hnb85 := NB184_160.out; have hnc85 := NB160_184.out; have hnb86 := NB184_164.out; have hnc86 := NB164_184.out; have hnb87 := NB184_178.out; have hnc87 := NB178_184.out; have hcz88_0 : w82.cell? ⟨gb184, 0, none⟩ = some (.int .i64 0) := (zL BK184.out 0).trans rfl; have hcz88_1 : w82.cell? ⟨gb184, 1, none⟩ = some (.int .i64 0) := (zL BK184.out 1).trans rfl; have hfz88_0 := zF BK184.out 0; have hfz88_1 := zF BK184.out 1; have hnb89 := NB164_158.out; have hnc89 := NB158_164.out; have hnb90 := NB164_160.out; have hnc90 := NB160_164.out; have hcz91_0 : w82.cell? ⟨gb164, 0, none⟩ = some (u165000) := (zL BK164.out 0).trans rfl; have hcz91_1 : w82.cell? ⟨gb164, 1, none⟩ = some (.int .i64 t175) := (zL BK164.out 1).trans rfl; have hcz91_2 : w82.cell? ⟨gb164, 2, none⟩ = some (.int .i64 t176) := (zL BK164.out 2).trans rfl; have hfz91_0 := zF BK164.out 0; have hfz91_1 := zF BK164.out 1; have hfz91_2 := zF BK164.out 2; obtain ⟨Ao92, co92, eo92⟩ := Kd.R_slice HO_165000.out; subst eo92))
      go_loopg [61] k2 (fun kq v61 w' => ∃ (x61_3 : Int) (x165000_3 : List (S24)) (u165000 : Value), v61 = .int .i64 x61_3 ∧ Aside0 (front_Step.l2 kq l2 (l2.length : Int) x50_2 x165000_2 (x165000_2.length : Int) x61_3 a1_0 a1_1 x165000_3 t175 t176 t182 t183 = some (r1, r2, r3)) ∧ Aside0 (kq ≤ k2) ∧ Aside0 (Kd.R k24 24 w' w.heap.size (fun k_ => k_ ≠ gb159 ∧ k_ ≠ gb178 ∧ k_ ≠ gb184) (.slice Ao92 x165000_2.length co92) x165000_2) ∧ Aside0 (Kd.R k24 24 w' w.heap.size (fun k_ => k_ ≠ gb159 ∧ k_ ≠ gb178 ∧ k_ ≠ gb184) u165000 x165000_3) ∧ Aside0 (w'.heap[gb158]? = some (.cells #[(.slice A0_0 l0_0.length c0_0), .int .i64 a0_1, .int .i64 a0_2] 26 (0, 0))) ∧ Aside0 (w'.heap[gb159]? = some (.cells #[.int .i64 a1_0, .int .i64 a1_1] 24 (0, 0))) ∧ Aside0 (w'.heap[gb160]? = some (.cells #[(.slice none 0 0), .int .i64 0, .int .i64 0] 26 (0, 0))) ∧ Aside0 (w'.heap[gb164]? = some (.cells #[u165000, .int .i64 t175, .int .i64 t176] 26 (0, 0))) ∧ Aside0 (w'.heap[gb178]? = some (.cells #[.int .i64 ((rd_T24 l2 x50_2).f0), .int .i64 ((rd_T24 l2 x50_2).f1)] 24 (0, 0))) ∧ Aside0 (w'.heap[gb184]? = some (.cells #[.int .i64 t182, .int .i64 t183] 24 (0, 0))) ∧ Aside0 (Below w.heap.size w w'))
      case atStart => exact ⟨(0), (x165000_2), (.slice Ao92 x165000_2.length co92), (by first | rfl | (simp; done) | (simp [*]; done) | (simp; grind)), H', ⟨Nat.le_refl _⟩, ⟨by (with_reducible repeat (first | apply Kd.R_alloc | apply Kd.R_drewN | apply Kd.R_drew)); exact Kd.R_mono (Kd.R_far (p := ⟨gb184, 1, none⟩) (Kd.R_far (p := ⟨gb184, 0, none⟩) (Kd.R_mono HO_165000.out (fun k_ hk => (⟨hk, hk.2⟩ : _ ∧ k_ ≠ gb184))) (fun _ hk => hk.2) (.int .i64 t182)) (fun _ hk => hk.2) (.int .i64 t183)) (fun _ hk => ⟨hk.1.1.1.1, ⟨hk.1.1.1.2, hk.1.2⟩⟩)⟩, ⟨by (with_reducible repeat (first | apply Kd.R_alloc | apply Kd.R_drewN | apply Kd.R_drew)); exact Kd.R_mono (Kd.R_far (p := ⟨gb184, 1, none⟩) (Kd.R_far (p := ⟨gb184, 0, none⟩) (Kd.R_mono HO_165000.out (fun k_ hk => (⟨hk, hk.2⟩ : _ ∧ k_ ≠ gb184))) (fun _ hk => hk.2) (.int .i64 t182)) (fun _ hk => hk.2) (.int .i64 t183)) (fun _ hk => ⟨hk.1.1.1.1, ⟨hk.1.1.1.2, hk.1.2⟩⟩)⟩, ⟨blf_⟩, ⟨blf_⟩, ⟨blf_⟩, ⟨blf_⟩, ⟨blf_⟩, ⟨by (with_reducible repeat (first | refine zN ?_ _ | refine zD ?_ | refine zA ?_ _)); refine blk_put (cs := #[.int .i64 t182, .int .i64 0]) ?_ 1 _ rfl; (with_reducible repeat (first | refine zN ?_ _ | refine zD ?_ | refine zA ?_ _)); refine blk_put (cs := #[.int .i64 0, .int .i64 0]) ?_ 0 _ rfl; (with_reducible repeat (first | refine zN ?_ _ | refine zD ?_ | refine zA ?_ _)); exact BK184.out⟩, ⟨bel_⟩⟩
      case round =>
       clear H'
       try clear c1
       try clear p1
       try clear q1
       try clear hx1
       try clear c2
       try clear p2
       try clear c3
       try clear c4
       try clear c4b0
       try clear c4b1
       try clear c4b2
       try clear c5
       try clear c6
       try clear p6
       try clear c7
       try clear c8
       try clear c9
       try clear c14
       try clear p16
       try clear q16
       try clear hx16
       try clear p17
       try clear q17
       try clear hx17
       try clear c19
       try clear c20
       try clear c21
       try clear c22
       try clear c23
       try clear c23b0
       try clear c24
       try clear c24b0
       try clear c25
       try clear c25b0
       try clear c26
       try clear c26b0
       try clear c27
       try clear c29
       try clear c30
       try clear c31
       try clear c32
       try clear c34
       try clear c35
       try clear c36
       try clear c38
       try clear c39
       try clear c45
       try clear c46
       try clear c47
       try clear c48
       try clear c50
       try clear c51
       try clear c52
       try clear c64
       try clear c64b0
       try clear p64
       try clear c65
       try clear c65b0
       try clear c66
       try clear c66b0
       try clear c69
       try clear c70
       try clear c71
       try clear c72
       try clear c74
       try clear c75
       try clear c76
       try clear c83
       try clear c84
       try clear c85
       try clear c86
       try clear c87
       try clear c89
       try clear c90
       try clear hcz22_0
       try clear hcz22_1
       try clear hcz22_2
       try clear hcz33_0
       try clear hcz33_1
       try clear hcz37_0
       try clear hcz37_1
       try clear hcz40_0
       try clear hcz40_1
       try clear hcz40_2
       try clear hcz43_0
       try clear hcz43_1
       try clear hcz43_2
       try clear hcz49_0
       try clear hcz49_1
       try clear hcz53_0
       try clear hcz53_1
       try clear hcz73_0
       try clear hcz73_1
       try clear hcz77_0
       try clear hcz77_1
       try clear hcz88_0
       try clear hcz88_1
       try clear hcz91_0
       try clear hcz91_1
       try clear hcz91_2
       try clear hfz22_0
       try clear hfz22_1
       try clear hfz22_2
       try clear hfz33_0
       try clear hfz33_1
       try clear hfz37_0
       try clear hfz37_1
       try clear hfz40_0
       try clear hfz40_1
       try clear hfz40_2
       try clear hfz43_0
       try clear hfz43_1
       try clear hfz43_2
       try clear hfz49_0
       try clear hfz49_1
       try clear hfz53_0
       try clear hfz53_1
       try clear hfz73_0
       try clear hfz73_1
       try clear hfz77_0
       try clear hfz77_1
       try clear hfz88_0
       try clear hfz88_1
       try clear hfz91_0
       try clear hfz91_1
       try clear hfz91_2
       try clear hx165_0
       try clear hx165_1
       try clear hx177_0
       try clear hx177_1
       try clear p1
       try clear p16
       try clear p165
       try clear p177
       try clear p2
       try clear p6
       try clear q1
       try clear q16
       try clear q165
       try clear q177
       try clear HO_59
       try clear HO_165000
       try clear BK158
       try clear BK159
       try clear BK160
       try clear BK164
       try clear BK178
       try clear BK184
       try clear HB
       obtain ⟨x61_3, x165000_3, u165000, rfl, HA, HK3, HO_59, HO_165000, BK158, BK159, BK160, BK164, BK178, BK184, HB⟩ := hrel
       cases gk with
       | zero => exact absurd HA.out (by simp [front_Step.l2])
       | succ k3 =>
        have H := HA.out
        clear HA
        simp only [front_Step.l2] at H
        by_cases c93 : x61_3 < (x165000_2.length : Int)
        rotate_left
        · rw [if_neg c93] at H
          have c93b0 : decide (x61_3 < (x165000_2.length : Int)) = false := decide_eq_false c93
          clear c93
          by_cases c157 : x165000_3.length < 8796093022208
          rotate_left
          · rw [if_neg c157] at H
            exact absurd H (by simp)
          rw [if_pos c157] at H
          have LMc157 := zM c157
          clear c157
          obtain ⟨y185, hy185⟩ : ∃ y_ : List (S24), y_ = (x165000_3 ++ [(⟨t182, t183⟩ : S24)]) := ⟨_, rfl⟩
          replace H : (front_Step.l1 k3 l2 (l2.length : Int) (wrap64 (x50_2 + 1)) a1_0 a1_1 y185 t175 t176) = some (r1, r2, r3) := by first | (rw [hy185]; with_reducible exact H) | (have H2_ := (Option.bind_some _ _).symm.trans H; rw [hy185]; with_reducible exact H2_) | (have H2_ := (Option.bind_some _ _).symm.trans H; with_reducible exact H2_) | with_reducible exact H | (rw [hy185]; exact H) | exact H
          have Ny185 := zM hy185
          clear hy185
          have H' := zM H
          clear H
          have hnb158 := NB164_158.out
          have hnc158 := NB158_164.out
          have hnb159 := NB164_159.out
          have hnc159 := NB159_164.out
          have hnb160 := NB164_160.out
          have hnc160 := NB160_164.out
          have hnb161 := NB164_178.out
          have hnc161 := NB178_164.out
          have hnb162 := NB164_184.out
          have hnc162 := NB184_164.out
          have hcz163_0 : wr.cell? ⟨gb164, 0, none⟩ = some (u165000) := (zL BK164.out 0).trans rfl
          have hcz163_1 : wr.cell? ⟨gb164, 1, none⟩ = some (.int .i64 t175) := (zL BK164.out 1).trans rfl
          have hcz163_2 : wr.cell? ⟨gb164, 2, none⟩ = some (.int .i64 t176) := (zL BK164.out 2).trans rfl
          have hfz163_0 := zF BK164.out 0
          have hfz163_1 := zF BK164.out 1
          have hfz163_2 := zF BK164.out 2
          have hnb164 := NB184_158.out
          have hnc164 := NB158_184.out
          have hnb165 := NB184_159.out
          have hnc165 := NB159_184.out
          have hnb166 := NB184_160.out
          have hnc166 := NB160_184.out
          have hnb167 := NB184_178.out
          have hnc167 := NB178_184.out
          have hcz168_0 : wr.cell? ⟨gb184, 0, none⟩ = some (.int .i64 t182) := (zL BK184.out 0).trans rfl
          have hcz168_1 : wr.cell? ⟨gb184, 1, none⟩ = some (.int .i64 t183) := (zL BK184.out 1).trans rfl
          have hfz168_0 := zF BK184.out 0
          have hfz168_1 := zF BK184.out 1
          go_wp2_with (first | go_step3 | ((with_reducible refine gate_builtin (b := .append) (xs := #[.tmp 83, .tmp 85]) rfl ?_); at_builtin; refine Kd.R_append k24 (w0 := w) w.heap.size rfl (.tmp 83) (.tmp 85) 22 24 (.agg #[(.int .i64 0), (.int .i64 0)]) 16 rfl Try.underlying22 info24 rfl (by decide) (by omega) u165000 x165000_3 (⟨t182, t183⟩ : S24) [.int .i64 t182, .int .i64 t183] (fun k_ => k_ ≠ gb159 ∧ k_ ≠ gb178 ∧ k_ ≠ gb184) (fun _ => False) rfl rfl ?aP (fun _ hk => hk.elim) ?aF ?aO ?aB ?aS ?aL ?_; (case aP => exact k24_mkM _ _ _ (⟨t182, t183⟩ : S24)); (case aB => exact bel_); (case aF => exact (fun k_ hk => ⟨Kd.freshB (g := gb159) (o := .cells #[.int .i64 a1_0, .int .i64 a1_1] 24 (0, 0)) blk_ k_ hk, Kd.freshB (g := gb178) (o := .cells #[.int .i64 ((rd_T24 l2 x50_2).f0), .int .i64 ((rd_T24 l2 x50_2).f1)] 24 (0, 0)) blk_ k_ hk, Kd.freshB (g := gb184) (o := .cells #[.int .i64 t182, .int .i64 t183] 24 (0, 0)) blk_ k_ hk⟩)); (case aO => exact (rl_ HO_165000)); (case aS => exact (below_size bel_)); (case aL => have := LMc157.out; omega); intro v186 w169 ho hb hg hat; rw [← Ny185.out] at ho; have n0_ := zM (blk_grown (g := gb158) (o := .cells #[.slice A0_0 l0_0.length c0_0, .int .i64 a0_1, .int .i64 a0_2] 26 (0, 0)) blk_ hg (Kd.R_ne HO_165000.out BK158.out (by decide))); have n1_ := zM (blk_grown (g := gb159) (o := .cells #[.int .i64 a1_0, .int .i64 a1_1] 24 (0, 0)) blk_ hg (Kd.R_away HO_165000.out (fun _ hk => hk.1))); have n2_ := zM (blk_grown (g := gb160) (o := .cells #[.slice none 0 0, .int .i64 0, .int .i64 0] 26 (0, 0)) blk_ hg (Kd.R_ne HO_165000.out BK160.out (by decide))); have n3_ := zM (blk_grown (g := gb164) (o := .cells #[u165000, .int .i64 t175, .int .i64 t176] 26 (0, 0)) blk_ hg (Kd.R_ne HO_165000.out BK164.out (by decide))); have n4_ := zM (blk_grown (g := gb178) (o := .cells #[.int .i64 ((rd_T24 l2 x50_2).f0), .int .i64 ((rd_T24 l2 x50_2).f1)] 24 (0, 0)) blk_ hg (Kd.R_away HO_165000.out (fun _ hk => hk.2.1))); have n5_ := zM (blk_grown (g := gb184) (o := .cells #[.int .i64 t182, .int .i64 t183] 24 (0, 0)) blk_ hg (Kd.R_away HO_165000.out (fun _ hk => hk.2.2))); have n6_ := zM (hb); have n7_ := zM (ho); clear BK158; clear BK159; clear BK160; clear BK164; clear BK178; clear BK184; clear HB; clear HO_165000; have BK158 := n0_; have BK159 := n1_; have BK160 := n2_; have BK164 := n3_; have BK178 := n4_; have BK184 := n5_; have HB := n6_; have HO187 := n7_; clear n0_ n1_ n2_ n3_ n4_ n5_ n6_ n7_; clear ho hb hg hat; obtain ⟨Ao170, co170, eo170⟩ := Kd.R_slice HO187.out; subst eo170; have hcz171_0 : w169.cell? ⟨gb164, 0, none⟩ = some (u165000) := (zL BK164.out 0).trans rfl; have hcz171_1 : w169.cell? ⟨gb164, 1, none⟩ = some (.int .i64 t175) := (zL BK164.out 1).trans rfl; have hcz171_2 : w169.cell? ⟨gb164, 2, none⟩ = some (.int .i64 t176) := (zL BK164.out 2).trans rfl; have hfz171_0 := zF BK164.out 0; have hfz171_1 := zF BK164.out 1; have hfz171_2 := zF BK164.out 2))
          go_roundg k3
          case measure => have := HK1.out; have := HK2.out; have := HK3.out; omega
          case rel => exact ⟨(wrap64 (x50_2 + 1)), (y185), (.slice Ao170 y185.length co170), (by first | rfl | (simp; done) | (simp [*]; done) | (simp; grind)), H', ⟨by have := HK1.out; have := HK2.out; have := HK3.out; omega⟩, ⟨by (with_reducible repeat (first | apply Kd.R_alloc | apply Kd.R_drewN | apply Kd.R_drew)); exact Kd.R_mono (Kd.R_far (p := ⟨gb164, 0, none⟩) (Kd.R_types HO187.out BK164.out (by decide)) (fun _ hk => hk.2) (.slice Ao170 y185.length co170)) (fun _ hk => hk.1.1)⟩, ⟨blf_⟩, ⟨blf_⟩, ⟨blf_⟩, ⟨by (with_reducible repeat (first | refine zN ?_ _ | refine zD ?_ | refine zA ?_ _)); refine blk_put (cs := #[u165000, .int .i64 t175, .int .i64 t176]) ?_ 0 _ rfl; (with_reducible repeat (first | refine zN ?_ _ | refine zD ?_ | refine zA ?_ _)); exact BK164.out⟩, ⟨bel_⟩⟩
        rw [if_pos c93] at H
        have c93b0 : decide (x61_3 < (x165000_2.length : Int)) = true := decide_eq_true c93
        clear c93
        by_cases c94 : 0 ≤ x61_3
        rotate_left
        · rw [if_neg c94] at H
          exact absurd H (by simp)
        rw [if_pos c94] at H
        have c94b0 : decide (0 ≤ x61_3) = true := decide_eq_true c94
        clear c94
        by_cases c95 : x61_3 < (x165000_2.length : Int)
        rotate_left
        · rw [if_neg c95] at H
          exact absurd H (by simp)
        rw [if_pos c95] at H
        have c95b0 : decide (x61_3 < (x165000_2.length : Int)) = true := decide_eq_true c95
        clear c95
        by_cases c96 : (((rd_T24 x165000_2 x61_3).f0) == t182 && (((rd_T24 x165000_2 x61_3).f1) == t183)) = true
        · rw [if_pos c96] at H
          have c96b0 : (((rd_T24 x165000_2 x61_3).f0) == t182 && (((rd_T24 x165000_2 x61_3).f1) == t183)) = true := c96
          (try (have c96b1 : decide (((rd_T24 x165000_2 x61_3).f0) = t182 && (((rd_T24 x165000_2 x61_3).f1) == t183)) = true := by simpa using c96))
          (try (have c96b2 : (((rd_T24 x165000_2 x61_3).f0) == t182 && (((rd_T24 x165000_2 x61_3).f1) == t183)) = true := by simpa using c96))
          clear c96
          have H' := zM H
          clear H
          have p188 : 0 ≤ (x61_3 : Int) := of_decide_eq_true (by first | (with_reducible assumption) | assumption)
          have q188 : x61_3 < (x165000_2.length : Int) := of_decide_eq_true (by first | (with_reducible assumption) | assumption)
          obtain ⟨ad188, e188, hx188_0, hx188_1⟩ := at_T24 (Kd.R_reads' HO_59.out).2.2 x61_3 p188 q188
          cases e188
          replace p188 := eq_true p188
          replace q188 := eq_true q188
          go_wp2_with (first | go_step3 | ((with_reducible refine gate_dst (N := 14) rfl ?_); refine box_event ?hg (N := 14) ?hd (cs := #[.int .i64 0, .int .i64 0]) (t := 24) ?hr ?_; (case hd => rfl); (case hg => rfl); (case hr => first | (go_simp; done) | (go_simp; rfl)); intro gb189 hg w97 hbox hb; replace HO_59 := zM (Kd.R_below (Kd.R_elderB (rl_ HO_59) gb189 (Nat.le_of_eq hg.symm)) hb); replace HO_165000 := zM (Kd.R_below (Kd.R_elderB (rl_ HO_165000) gb189 (Nat.le_of_eq hg.symm)) hb); have BK189 := zM (hbox); have GW189 := zM (bs_ hg); have GE189 := zM (bs_ hg); replace HB := zM (zB bel_ hb); have NB158_189 := zM (nl_ BK158 hg); have NB189_158 := zM (ng_ BK158 hg); replace BK158 := zM (bb_ BK158 hb); have NB159_189 := zM (nl_ BK159 hg); have NB189_159 := zM (ng_ BK159 hg); replace BK159 := zM (bb_ BK159 hb); have NB160_189 := zM (nl_ BK160 hg); have NB189_160 := zM (ng_ BK160 hg); replace BK160 := zM (bb_ BK160 hb); have NB164_189 := zM (nl_ BK164 hg); have NB189_164 := zM (ng_ BK164 hg); replace BK164 := zM (bb_ BK164 hb); have NB178_189 := zM (nl_ BK178 hg); have NB189_178 := zM (ng_ BK178 hg); replace BK178 := zM (bb_ BK178 hb); have NB184_189 := zM (nl_ BK184 hg); have NB189_184 := zM (ng_ BK184 hg); replace BK184 := zM (bb_ BK184 hb); clear hb hbox hg; have hnb98 := NB189_158.out; have hnc98 := NB158_189.out; have hnb99 := NB189_159.out; have hnc99 := NB159_189.out; have hnb100 := NB189_160.out; have hnc100 := NB160_189.out; have hnb101 := NB189_164.out; have hnc101 := NB164_189.out; have hnb102 := NB189_178.out; have hnc102 := NB178_189.out; have hnb103 := NB189_184.out; have hnc103 := NB184_189.out; have hcz104_0 : w97.cell? ⟨gb189, 0, none⟩ = some (.int .i64 0) := (zL BK189.out 0).trans rfl; have hcz104_1 : w97.cell? ⟨gb189, 1, none⟩ = some (.int .i64 0) := (zL BK189.out 1).trans rfl; have hfz104_0 := zF BK189.out 0; have hfz104_1 := zF BK189.out 1; have hnb105 := NB184_158.out; have hnc105 := NB158_184.out; have hnb106 := NB184_159.out; have hnc106 := NB159_184.out; have hnb107 := NB184_160.out; have hnc107 := NB160_184.out; have hnb108 := NB184_164.out; have hnc108 := NB164_184.out; have hnb109 := NB184_178.out; have hnc109 := NB178_184.out; have hcz110_0 : w97.cell? ⟨gb184, 0, none⟩ = some (.int .i64 t182) := (zL BK184.out 0).trans rfl; have hcz110_1 : w97.cell? ⟨gb184, 1, none⟩ = some (.int .i64 t183) := (zL BK184.out 1).trans rfl; have hfz110_0 := zF BK184.out 0; have hfz110_1 := zF BK184.out 1))
          go_roundg k3
          case measure => have := HK1.out; have := HK2.out; have := HK3.out; omega
          case rel => exact ⟨(wrap64 (x50_2 + 1)), (x165000_3), (u165000), (by first | rfl | (simp; done) | (simp [*]; done) | (simp; grind)), H', ⟨by have := HK1.out; have := HK2.out; have := HK3.out; omega⟩, ⟨by (with_reducible repeat (first | apply Kd.R_alloc | apply Kd.R_drewN | apply Kd.R_drew)); exact Kd.R_mono (Kd.R_far (p := ⟨gb189, 1, none⟩) (Kd.R_far (p := ⟨gb189, 0, none⟩) (Kd.R_mono HO_165000.out (fun k_ hk => (⟨hk, hk.2⟩ : _ ∧ k_ ≠ gb189))) (fun _ hk => hk.2) (.int .i64 ((rd_T24 x165000_2 x61_3).f0))) (fun _ hk => hk.2) (.int .i64 ((rd_T24 x165000_2 x61_3).f1))) (fun _ hk => hk.1.1.1)⟩, ⟨blf_⟩, ⟨blf_⟩, ⟨blf_⟩, ⟨blf_⟩, ⟨bel_⟩⟩
        rw [if_neg c96] at H
        have c96b0 : (((rd_T24 x165000_2 x61_3).f0) == t182 && (((rd_T24 x165000_2 x61_3).f1) == t183)) = false := by simpa using c96
        (try (have c96b1 : decide (((rd_T24 x165000_2 x61_3).f0) = t182 && (((rd_T24 x165000_2 x61_3).f1) == t183)) = false := by simpa using c96))
        (try (have c96b2 : (((rd_T24 x165000_2 x61_3).f0) == t182 && (((rd_T24 x165000_2 x61_3).f1) == t183)) = false := by simpa using c96))
        (try (have c96b3 : ¬ (((rd_T24 x165000_2 x61_3).f0) = t182 && (((rd_T24 x165000_2 x61_3).f1) == t183)) := by simpa using c96))
        clear c96
        replace H := Option.bind_eq_some_iff.mp H
        obtain ⟨t190, A1110, H⟩ := H
        replace H : (if t190 = true then ((api_View_27.f x165000_3 x61_3 (([(⟨t182, t183⟩ : S24)] : List (S24)))).bind fun t194 => (front_Step.l1 k3 l2 (l2.length : Int) (wrap64 (x50_2 + 1)) a1_0 a1_1 t194 t175 t176)) else (front_Step.l2 k3 l2 (l2.length : Int) x50_2 x165000_2 (x165000_2.length : Int) (wrap64 (x61_3 + 1)) a1_0 a1_1 x165000_3 t175 t176 t182 t183)) = some (r1, r2, r3) := H
        have A111 := zM A1110
        clear A1110
        by_cases c112 : t190 = true
        rotate_left
        · replace c112 := Bool.eq_false_iff.mpr c112
          subst c112
          have H1 : (front_Step.l2 k3 l2 (l2.length : Int) x50_2 x165000_2 (x165000_2.length : Int) (wrap64 (x61_3 + 1)) a1_0 a1_1 x165000_3 t175 t176 t182 t183) = some (r1, r2, r3) := by rw [if_neg (show ¬ (false = true) by decide)] at H; exact H
          clear H
          have H := H1
          clear H1
          have H' := zM H
          clear H
          have p188 : 0 ≤ (x61_3 : Int) := of_decide_eq_true (by first | (with_reducible assumption) | assumption)
          have q188 : x61_3 < (x165000_2.length : Int) := of_decide_eq_true (by first | (with_reducible assumption) | assumption)
          obtain ⟨ad188, e188, hx188_0, hx188_1⟩ := at_T24 (Kd.R_reads' HO_59.out).2.2 x61_3 p188 q188
          cases e188
          replace p188 := eq_true p188
          replace q188 := eq_true q188
          go_wp2_with (first | go_step3 | ((with_reducible refine gate_dst (N := 14) rfl ?_); refine box_event ?hg (N := 14) ?hd (cs := #[.int .i64 0, .int .i64 0]) (t := 24) ?hr ?_; (case hd => rfl); (case hg => rfl); (case hr => first | (go_simp; done) | (go_simp; rfl)); intro gb189 hg w142 hbox hb; replace HO_59 := zM (Kd.R_below (Kd.R_elderB (rl_ HO_59) gb189 (Nat.le_of_eq hg.symm)) hb); replace HO_165000 := zM (Kd.R_below (Kd.R_elderB (rl_ HO_165000) gb189 (Nat.le_of_eq hg.symm)) hb); have BK189 := zM (hbox); have GW189 := zM (bs_ hg); have GE189 := zM (bs_ hg); replace HB := zM (zB bel_ hb); have NB158_189 := zM (nl_ BK158 hg); have NB189_158 := zM (ng_ BK158 hg); replace BK158 := zM (bb_ BK158 hb); have NB159_189 := zM (nl_ BK159 hg); have NB189_159 := zM (ng_ BK159 hg); replace BK159 := zM (bb_ BK159 hb); have NB160_189 := zM (nl_ BK160 hg); have NB189_160 := zM (ng_ BK160 hg); replace BK160 := zM (bb_ BK160 hb); have NB164_189 := zM (nl_ BK164 hg); have NB189_164 := zM (ng_ BK164 hg); replace BK164 := zM (bb_ BK164 hb); have NB178_189 := zM (nl_ BK178 hg); have NB189_178 := zM (ng_ BK178 hg); replace BK178 := zM (bb_ BK178 hb); have NB184_189 := zM (nl_ BK184 hg); have NB189_184 := zM (ng_ BK184 hg); replace BK184 := zM (bb_ BK184 hb); clear hb hbox hg; have hnb143 := NB189_158.out; have hnc143 := NB158_189.out; have hnb144 := NB189_159.out; have hnc144 := NB159_189.out; have hnb145 := NB189_160.out; have hnc145 := NB160_189.out; have hnb146 := NB189_164.out; have hnc146 := NB164_189.out; have hnb147 := NB189_178.out; have hnc147 := NB178_189.out; have hnb148 := NB189_184.out; have hnc148 := NB184_189.out; have hcz149_0 : w142.cell? ⟨gb189, 0, none⟩ = some (.int .i64 0) := (zL BK189.out 0).trans rfl; have hcz149_1 : w142.cell? ⟨gb189, 1, none⟩ = some (.int .i64 0) := (zL BK189.out 1).trans rfl; have hfz149_0 := zF BK189.out 0; have hfz149_1 := zF BK189.out 1; have hnb150 := NB184_158.out; have hnc150 := NB158_184.out; have hnb151 := NB184_159.out; have hnc151 := NB159_184.out; have hnb152 := NB184_160.out; have hnc152 := NB160_184.out; have hnb153 := NB184_164.out; have hnc153 := NB164_184.out; have hnb154 := NB184_178.out; have hnc154 := NB178_184.out; have hcz155_0 : w142.cell? ⟨gb184, 0, none⟩ = some (.int .i64 t182) := (zL BK184.out 0).trans rfl; have hcz155_1 : w142.cell? ⟨gb184, 1, none⟩ = some (.int .i64 t183) := (zL BK184.out 1).trans rfl; have hfz155_0 := zF BK184.out 0; have hfz155_1 := zF BK184.out 1) | ((with_reducible refine gate_callee (f := 21) rfl ?_); refine goL_ (some 73) Try.func21 #[.agg #[.int .i64 t182, .int .i64 t183], .agg #[.int .i64 ((rd_T24 x165000_2 x61_3).f0), .int .i64 ((rd_T24 x165000_2 x61_3).f1)]] ?_; (with_reducible refine (view_Less.calls k3 t182 t183 ((rd_T24 x165000_2 x61_3).f0) ((rd_T24 x165000_2 x61_3).f1) false _ A111.out).mono ?_); rintro e w156 ⟨rfl, hb⟩; refine ⟨_, rfl, ?_⟩; have n0_ := zM (Kd.R_below (by (with_reducible repeat (first | apply Kd.R_alloc | apply Kd.R_drewN | apply Kd.R_drew)); exact (Kd.R_mono (Kd.R_far (p := ⟨gb189, 1, none⟩) (Kd.R_far (p := ⟨gb189, 0, none⟩) (Kd.R_mono HO_59.out (fun k_ hk => (⟨hk, hk.2⟩ : _ ∧ k_ ≠ gb189))) (fun _ hk => hk.2) (.int .i64 ((rd_T24 x165000_2 x61_3).f0))) (fun _ hk => hk.2) (.int .i64 ((rd_T24 x165000_2 x61_3).f1))) (fun _ h_ => h_.1))) hb); have n1_ := zM (Kd.R_below (by (with_reducible repeat (first | apply Kd.R_alloc | apply Kd.R_drewN | apply Kd.R_drew)); exact (Kd.R_mono (Kd.R_far (p := ⟨gb189, 1, none⟩) (Kd.R_far (p := ⟨gb189, 0, none⟩) (Kd.R_mono HO_165000.out (fun k_ hk => (⟨hk, hk.2⟩ : _ ∧ k_ ≠ gb189))) (fun _ hk => hk.2) (.int .i64 ((rd_T24 x165000_2 x61_3).f0))) (fun _ hk => hk.2) (.int .i64 ((rd_T24 x165000_2 x61_3).f1))) (fun _ h_ => h_.1))) hb); have n2_ := zM (blk_below (g := gb158) (o := .cells #[.slice A0_0 l0_0.length c0_0, .int .i64 a0_1, .int .i64 a0_2] 26 (0, 0)) blf_ hb); have n3_ := zM (blk_below (g := gb159) (o := .cells #[.int .i64 a1_0, .int .i64 a1_1] 24 (0, 0)) blf_ hb); have n4_ := zM (blk_below (g := gb160) (o := .cells #[.slice none 0 0, .int .i64 0, .int .i64 0] 26 (0, 0)) blf_ hb); have n5_ := zM (blk_below (g := gb164) (o := .cells #[u165000, .int .i64 t175, .int .i64 t176] 26 (0, 0)) blf_ hb); have n6_ := zM (blk_below (g := gb178) (o := .cells #[.int .i64 ((rd_T24 l2 x50_2).f0), .int .i64 ((rd_T24 l2 x50_2).f1)] 24 (0, 0)) blf_ hb); have n7_ := zM (blk_below (g := gb184) (o := .cells #[.int .i64 t182, .int .i64 t183] 24 (0, 0)) blf_ hb); have n8_ := zM (blk_below (g := gb189) (o := .cells #[.int .i64 ((rd_T24 x165000_2 x61_3).f0), .int .i64 ((rd_T24 x165000_2 x61_3).f1)] 24 (0, 0)) (by (with_reducible repeat (first | refine zN ?_ _ | refine zD ?_ | refine zA ?_ _)); refine blk_put (cs := #[.int .i64 ((rd_T24 x165000_2 x61_3).f0), .int .i64 0]) ?_ 1 _ rfl; (with_reducible repeat (first | refine zN ?_ _ | refine zD ?_ | refine zA ?_ _)); refine blk_put (cs := #[.int .i64 0, .int .i64 0]) ?_ 0 _ rfl; (with_reducible repeat (first | refine zN ?_ _ | refine zD ?_ | refine zA ?_ _)); exact BK189.out) hb); have n9_ := zM (zB bel_ hb); clear HO_59; clear HO_165000; clear BK158; clear BK159; clear BK160; clear BK164; clear BK178; clear BK184; clear BK189; clear HB; have HO_59 := n0_; have HO_165000 := n1_; have BK158 := n2_; have BK159 := n3_; have BK160 := n4_; have BK164 := n5_; have BK178 := n6_; have BK184 := n7_; have BK189 := n8_; have HB := n9_; clear n0_ n1_ n2_ n3_ n4_ n5_ n6_ n7_ n8_ n9_; (try clear hb); (try clear hb2); (try clear hk); (try clear hi)))
          go_roundg k3
          case measure => have := HK1.out; have := HK2.out; have := HK3.out; omega
          case rel => exact ⟨(wrap64 (x61_3 + 1)), (x165000_3), (u165000), (by first | rfl | (simp; done) | (simp [*]; done) | (simp; grind)), H', ⟨by have := HK1.out; have := HK2.out; have := HK3.out; omega⟩, ⟨by (with_reducible repeat (first | apply Kd.R_alloc | apply Kd.R_drewN | apply Kd.R_drew)); exact Kd.R_mono HO_59.out (fun _ hk => ⟨hk.1.1, ⟨hk.1.2.1, hk.1.2.2⟩⟩)⟩, ⟨by (with_reducible repeat (first | apply Kd.R_alloc | apply Kd.R_drewN | apply Kd.R_drew)); exact Kd.R_mono HO_165000.out (fun _ hk => ⟨hk.1.1, ⟨hk.1.2.1, hk.1.2.2⟩⟩)⟩, ⟨blf_⟩, ⟨blf_⟩, ⟨blf_⟩, ⟨blf_⟩, ⟨blf_⟩, ⟨blf_⟩, ⟨bel_⟩⟩
        subst c112
        have H1 : ((api_View_27.f x165000_3 x61_3 (([(⟨t182, t183⟩ : S24)] : List (S24)))).bind fun t194 => (front_Step.l1 k3 l2 (l2.length : Int) (wrap64 (x50_2 + 1)) a1_0 a1_1 t194 t175 t176)) = some (r1, r2, r3) := by rw [if_pos rfl] at H; exact H
        clear H
        have H := H1
        clear H1
        obtain ⟨y191, hy191⟩ : ∃ y_ : List (S24), y_ = (([(⟨t182, t183⟩ : S24)] : List (S24))) := ⟨_, rfl⟩
        replace H : ((api_View_27.f x165000_3 x61_3 y191).bind fun t194 => (front_Step.l1 k3 l2 (l2.length : Int) (wrap64 (x50_2 + 1)) a1_0 a1_1 t194 t175 t176)) = some (r1, r2, r3) := by first | (rw [hy191]; with_reducible exact H) | (have H2_ := (Option.bind_some _ _).symm.trans H; rw [hy191]; with_reducible exact H2_) | (have H2_ := (Option.bind_some _ _).symm.trans H; with_reducible exact H2_) | with_reducible exact H | (rw [hy191]; exact H) | exact H
        have Ny191 := zM hy191
        clear hy191
        replace H := Option.bind_eq_some_iff.mp H
        obtain ⟨t194, A1130, H⟩ := H
        replace H : (front_Step.l1 k3 l2 (l2.length : Int) (wrap64 (x50_2 + 1)) a1_0 a1_1 t194 t175 t176) = some (r1, r2, r3) := H
        have A113 := zM A1130
        clear A1130
        have H' := zM H
        clear H
        have p188 : 0 ≤ (x61_3 : Int) := of_decide_eq_true (by first | (with_reducible assumption) | assumption)
        have q188 : x61_3 < (x165000_2.length : Int) := of_decide_eq_true (by first | (with_reducible assumption) | assumption)
        obtain ⟨ad188, e188, hx188_0, hx188_1⟩ := at_T24 (Kd.R_reads' HO_59.out).2.2 x61_3 p188 q188
        cases e188
        replace p188 := eq_true p188
        replace q188 := eq_true q188
        go_wp2_with (first | go_step3 | ((with_reducible refine gate_dst (N := 14) rfl ?_); refine box_event ?hg (N := 14) ?hd (cs := #[.int .i64 0, .int .i64 0]) (t := 24) ?hr ?_; (case hd => rfl); (case hg => rfl); (case hr => first | (go_simp; done) | (go_simp; rfl)); intro gb189 hg w114 hbox hb; replace HO_59 := zM (Kd.R_below (Kd.R_elderB (rl_ HO_59) gb189 (Nat.le_of_eq hg.symm)) hb); replace HO_165000 := zM (Kd.R_below (Kd.R_elderB (rl_ HO_165000) gb189 (Nat.le_of_eq hg.symm)) hb); have BK189 := zM (hbox); have GW189 := zM (bs_ hg); have GE189 := zM (bs_ hg); replace HB := zM (zB bel_ hb); have NB158_189 := zM (nl_ BK158 hg); have NB189_158 := zM (ng_ BK158 hg); replace BK158 := zM (bb_ BK158 hb); have NB159_189 := zM (nl_ BK159 hg); have NB189_159 := zM (ng_ BK159 hg); replace BK159 := zM (bb_ BK159 hb); have NB160_189 := zM (nl_ BK160 hg); have NB189_160 := zM (ng_ BK160 hg); replace BK160 := zM (bb_ BK160 hb); have NB164_189 := zM (nl_ BK164 hg); have NB189_164 := zM (ng_ BK164 hg); replace BK164 := zM (bb_ BK164 hb); have NB178_189 := zM (nl_ BK178 hg); have NB189_178 := zM (ng_ BK178 hg); replace BK178 := zM (bb_ BK178 hb); have NB184_189 := zM (nl_ BK184 hg); have NB189_184 := zM (ng_ BK184 hg); replace BK184 := zM (bb_ BK184 hb); clear hb hbox hg; have hnb115 := NB189_158.out; have hnc115 := NB158_189.out; have hnb116 := NB189_159.out; have hnc116 := NB159_189.out; have hnb117 := NB189_160.out; have hnc117 := NB160_189.out; have hnb118 := NB189_164.out; have hnc118 := NB164_189.out; have hnb119 := NB189_178.out; have hnc119 := NB178_189.out; have hnb120 := NB189_184.out; have hnc120 := NB184_189.out; have hcz121_0 : w114.cell? ⟨gb189, 0, none⟩ = some (.int .i64 0) := (zL BK189.out 0).trans rfl; have hcz121_1 : w114.cell? ⟨gb189, 1, none⟩ = some (.int .i64 0) := (zL BK189.out 1).trans rfl; have hfz121_0 := zF BK189.out 0; have hfz121_1 := zF BK189.out 1; have hnb122 := NB184_158.out; have hnc122 := NB158_184.out; have hnb123 := NB184_159.out; have hnc123 := NB159_184.out; have hnb124 := NB184_160.out; have hnc124 := NB160_184.out; have hnb125 := NB184_164.out; have hnc125 := NB164_184.out; have hnb126 := NB184_178.out; have hnc126 := NB178_184.out; have hcz127_0 : w114.cell? ⟨gb184, 0, none⟩ = some (.int .i64 t182) := (zL BK184.out 0).trans rfl; have hcz127_1 : w114.cell? ⟨gb184, 1, none⟩ = some (.int .i64 t183) := (zL BK184.out 1).trans rfl; have hfz127_0 := zF BK184.out 0; have hfz127_1 := zF BK184.out 1) | ((with_reducible refine gate_callee (f := 21) rfl ?_); refine goL_ (some 73) Try.func21 #[.agg #[.int .i64 t182, .int .i64 t183], .agg #[.int .i64 ((rd_T24 x165000_2 x61_3).f0), .int .i64 ((rd_T24 x165000_2 x61_3).f1)]] ?_; (with_reducible refine (view_Less.calls k3 t182 t183 ((rd_T24 x165000_2 x61_3).f0) ((rd_T24 x165000_2 x61_3).f1) true _ A111.out).mono ?_); rintro e w128 ⟨rfl, hb⟩; refine ⟨_, rfl, ?_⟩; have n0_ := zM (Kd.R_below (by (with_reducible repeat (first | apply Kd.R_alloc | apply Kd.R_drewN | apply Kd.R_drew)); exact (Kd.R_mono (Kd.R_far (p := ⟨gb189, 1, none⟩) (Kd.R_far (p := ⟨gb189, 0, none⟩) (Kd.R_mono HO_59.out (fun k_ hk => (⟨hk, hk.2⟩ : _ ∧ k_ ≠ gb189))) (fun _ hk => hk.2) (.int .i64 ((rd_T24 x165000_2 x61_3).f0))) (fun _ hk => hk.2) (.int .i64 ((rd_T24 x165000_2 x61_3).f1))) (fun _ h_ => h_.1))) hb); have n1_ := zM (Kd.R_below (by (with_reducible repeat (first | apply Kd.R_alloc | apply Kd.R_drewN | apply Kd.R_drew)); exact (Kd.R_mono (Kd.R_far (p := ⟨gb189, 1, none⟩) (Kd.R_far (p := ⟨gb189, 0, none⟩) (Kd.R_mono HO_165000.out (fun k_ hk => (⟨hk, hk.2⟩ : _ ∧ k_ ≠ gb189))) (fun _ hk => hk.2) (.int .i64 ((rd_T24 x165000_2 x61_3).f0))) (fun _ hk => hk.2) (.int .i64 ((rd_T24 x165000_2 x61_3).f1))) (fun _ h_ => h_.1))) hb); have n2_ := zM (blk_below (g := gb158) (o := .cells #[.slice A0_0 l0_0.length c0_0, .int .i64 a0_1, .int .i64 a0_2] 26 (0, 0)) blf_ hb); have n3_ := zM (blk_below (g := gb159) (o := .cells #[.int .i64 a1_0, .int .i64 a1_1] 24 (0, 0)) blf_ hb); have n4_ := zM (blk_below (g := gb160) (o := .cells #[.slice none 0 0, .int .i64 0, .int .i64 0] 26 (0, 0)) blf_ hb); have n5_ := zM (blk_below (g := gb164) (o := .cells #[u165000, .int .i64 t175, .int .i64 t176] 26 (0, 0)) blf_ hb); have n6_ := zM (blk_below (g := gb178) (o := .cells #[.int .i64 ((rd_T24 l2 x50_2).f0), .int .i64 ((rd_T24 l2 x50_2).f1)] 24 (0, 0)) blf_ hb); have n7_ := zM (blk_below (g := gb184) (o := .cells #[.int .i64 t182, .int .i64 t183] 24 (0, 0)) blf_ hb); have n8_ := zM (blk_below (g := gb189) (o := .cells #[.int .i64 ((rd_T24 x165000_2 x61_3).f0), .int .i64 ((rd_T24 x165000_2 x61_3).f1)] 24 (0, 0)) (by (with_reducible repeat (first | refine zN ?_ _ | refine zD ?_ | refine zA ?_ _)); refine blk_put (cs := #[.int .i64 ((rd_T24 x165000_2 x61_3).f0), .int .i64 0]) ?_ 1 _ rfl; (with_reducible repeat (first | refine zN ?_ _ | refine zD ?_ | refine zA ?_ _)); refine blk_put (cs := #[.int .i64 0, .int .i64 0]) ?_ 0 _ rfl; (with_reducible repeat (first | refine zN ?_ _ | refine zD ?_ | refine zA ?_ _)); exact BK189.out) hb); have n9_ := zM (zB bel_ hb); clear HO_59; clear HO_165000; clear BK158; clear BK159; clear BK160; clear BK164; clear BK178; clear BK184; clear BK189; clear HB; have HO_59 := n0_; have HO_165000 := n1_; have BK158 := n2_; have BK159 := n3_; have BK160 := n4_; have BK164 := n5_; have BK178 := n6_; have BK184 := n7_; have BK189 := n8_; have HB := n9_; clear n0_ n1_ n2_ n3_ n4_ n5_ n6_ n7_ n8_ n9_; (try clear hb); (try clear hb2); (try clear hk); (try clear hi); have hnb129 := NB164_158.out; have hnc129 := NB158_164.out; have hnb130 := NB164_159.out; have hnc130 := NB159_164.out; have hnb131 := NB164_160.out; have hnc131 := NB160_164.out; have hnb132 := NB164_178.out; have hnc132 := NB178_164.out; have hcz133_0 : w128.cell? ⟨gb164, 0, none⟩ = some (u165000) := (zL BK164.out 0).trans rfl; have hcz133_1 : w128.cell? ⟨gb164, 1, none⟩ = some (.int .i64 t175) := (zL BK164.out 1).trans rfl; have hcz133_2 : w128.cell? ⟨gb164, 2, none⟩ = some (.int .i64 t176) := (zL BK164.out 2).trans rfl; have hfz133_0 := zF BK164.out 0; have hfz133_1 := zF BK164.out 1; have hfz133_2 := zF BK164.out 2; have hcz134_0 : w128.cell? ⟨gb184, 0, none⟩ = some (.int .i64 t182) := (zL BK184.out 0).trans rfl; have hcz134_1 : w128.cell? ⟨gb184, 1, none⟩ = some (.int .i64 t183) := (zL BK184.out 1).trans rfl; have hfz134_0 := zF BK184.out 0; have hfz134_1 := zF BK184.out 1) | ((with_reducible refine gate_dst (N := 78) rfl ?_); refine Kd.R_lit k24 _ 24 ?hg (N := 78) ?hd (xs := ([(⟨t182, t183⟩ : S24)] : List (S24))) (inner := [.int .i64 t182, .int .i64 t183]) (ok := fun _ => True) (okp := fun _ => True) ?hr ?hp (fun _ hk => hk) trivial (Below.refl _ _) (Nat.le_refl _) (by simp) ?_; (case hd => rfl); (case hg => rfl); (case hr => first | (go_simp; done) | (go_simp; rfl)); (case hp => exact (Reps.c2 (show Kd.M k24 _ _ _ (⟨t182, t183⟩ : S24) [.int .i64 t182, .int .i64 t183] from (k24_mkM _ _ _ (⟨t182, t183⟩ : S24) )) (Reps.none _ _))); intro v192 w135 ho136 hb hg_ hnew_; clear hg_ hnew_; (first | rw [← Ny191.out] at ho136 | (simp only [Int.reduceToNat] at ho136; rw [← Ny191.out] at ho136)); have HO193 := zM (Kd.R_lower (Kd.R_newB (Kd.R_newB (Kd.R_newB (Kd.R_newB (Kd.R_new' (Kd.R_new' ho136 (Kd.R_lt (rl_ HO_59))) (Kd.R_lt (rl_ HO_165000))) (g := gb159) (o := .cells #[.int .i64 a1_0, .int .i64 a1_1] 24 (0, 0)) blk_) (g := gb178) (o := .cells #[.int .i64 ((rd_T24 l2 x50_2).f0), .int .i64 ((rd_T24 l2 x50_2).f1)] 24 (0, 0)) blk_) (g := gb184) (o := .cells #[.int .i64 t182, .int .i64 t183] 24 (0, 0)) blk_) (g := gb189) (o := .cells #[.int .i64 ((rd_T24 x165000_2 x61_3).f0), .int .i64 ((rd_T24 x165000_2 x61_3).f1)] 24 (0, 0)) blk_) (below_size bel_)); replace HO_59 := zM (Kd.R_elder' (rl_ HO_59) (Kd.R_base ho136) hb); replace HO_165000 := zM (Kd.R_elder' (rl_ HO_165000) (Kd.R_base ho136) hb); replace BK158 := zM (bb_ BK158 hb); replace BK159 := zM (bb_ BK159 hb); replace BK160 := zM (bb_ BK160 hb); replace BK164 := zM (bb_ BK164 hb); replace BK178 := zM (bb_ BK178 hb); replace BK184 := zM (bb_ BK184 hb); replace BK189 := zM (bb_ BK189 hb); replace HB := zM (zB bel_ hb); clear hb ho136; obtain ⟨Ao137, co137, eo137⟩ := Kd.R_slice HO_165000.out; subst eo137; obtain ⟨Ao138, co138, eo138⟩ := Kd.R_slice HO193.out; subst eo138) | ((with_reducible refine gate_callee (f := 27) rfl ?_); refine goL_ (some 79) Try.func27 #[.slice Ao137 x165000_3.length co137, .int .i64 x61_3, .slice Ao138 y191.length co138] ?_; (with_reducible refine (api_View_27.calls (fun k_ => some k_ = (.slice Ao137 x165000_3.length co137 : Value).ownBlock) (.slice Ao137 x165000_3.length co137) x165000_3 x61_3 _ _ y191 t194 w _ ?side1 ?side2 ?side3 ?side4 A113.out).mono ?_); (case side1 => repeat (first | (with_reducible first | exact HB.out | apply below_alloc | apply pw_below_drewN | apply below_drew1 | refine below_set ?_ GE158.out | refine below_set ?_ GE159.out | refine below_set ?_ GE160.out | refine below_set ?_ GE164.out | refine below_set ?_ GE178.out | refine below_set ?_ GE184.out | refine below_set ?_ GE189.out) | exact HB.out)); (case side2 => exact Kd.R_tight rfl HO_165000.out); (case side3 => exact Kd.C_kept_own (HO193.out) (fun k_ hk_ hs_ => (hk_.1.1.1.1.2) hs_)); (case side4 => exact (Kd.R_reads' HO193.out).2.1); rintro e w139 ⟨v195, rfl, ho0, hb, hkp⟩; refine ⟨_, rfl, ?_⟩; have n0_ := zM (blk_kept blk_ hkp (fun hs_ => (fun e_ => (Kd.R_ne HO_165000.out BK158.out (by decide)) e_) hs_)); have n1_ := zM (blk_kept blk_ hkp (fun hs_ => (fun e_ => (Kd.R_away HO_165000.out (fun _ hk => hk.1.1.1)) e_) hs_)); have n2_ := zM (blk_kept blk_ hkp (fun hs_ => (fun e_ => (Kd.R_ne HO_165000.out BK160.out (by decide)) e_) hs_)); have n3_ := zM (blk_kept blk_ hkp (fun hs_ => (fun e_ => (Kd.R_ne HO_165000.out BK164.out (by decide)) e_) hs_)); have n4_ := zM (blk_kept blk_ hkp (fun hs_ => (fun e_ => (Kd.R_away HO_165000.out (fun _ hk => hk.1.1.2.1)) e_) hs_)); have n5_ := zM (blk_kept blk_ hkp (fun hs_ => (fun e_ => (Kd.R_away HO_165000.out (fun _ hk => hk.1.1.2.2)) e_) hs_)); have n6_ := zM (blk_kept blk_ hkp (fun hs_ => (fun e_ => (Kd.R_away HO_165000.out (fun _ hk => hk.1.2)) e_) hs_)); have n7_ := zM (Kd.R_mono (ok' := fun k_ => some k_ ≠ (.slice (some ad188) x165000_2.length co92 : Value).ownBlock ∧ k_ ≠ gb159 ∧ k_ ≠ gb178 ∧ k_ ≠ gb184 ∧ k_ ≠ gb189 ∧ some k_ ≠ (v195 : Value).ownBlock) (Kd.R_keptB (HO193.out) hkp (fun k_ hk_ hs_ => (hk_.1.1.1.1.2) hs_)) (fun k_ hk_ => ⟨hk_.1.1.1.1.1.1.2, hk_.1.1.1.1.2, hk_.1.1.1.2, hk_.1.1.2, hk_.1.2, fun e_ => Or.elim (ho0.1 k_ e_.symm) (fun hs_ => hk_.2.1 hs_) (fun hn_ => Nat.not_le.2 hk_.2.2 hn_)⟩)); have n8_ := zM (Kd.R_mono (ok' := fun k_ => some k_ ≠ (.slice Ao138 y191.length co138 : Value).ownBlock ∧ k_ ≠ gb159 ∧ k_ ≠ gb178 ∧ k_ ≠ gb184 ∧ k_ ≠ gb189) ho0 (fun k_ hk_ => ⟨Or.elim hk_ (fun hs_ => fun e_ => (((HO193.out).1 k_ e_.symm).1.1.1.1.2) hs_) (fun hn_ => (Kd.fresh' (Kd.R_lt (rl_ HO193)) k_ hn_)), Or.elim hk_ (fun hs_ => fun e_ => (Kd.R_away HO_165000.out (fun _ hk => hk.1.1.1)) (by rw [← e_]; exact hs_)) (fun hn_ => (Kd.freshB (g := gb159) (o := .cells #[.int .i64 a1_0, .int .i64 a1_1] 24 (0, 0)) blk_ k_ hn_)), Or.elim hk_ (fun hs_ => fun e_ => (Kd.R_away HO_165000.out (fun _ hk => hk.1.1.2.1)) (by rw [← e_]; exact hs_)) (fun hn_ => (Kd.freshB (g := gb178) (o := .cells #[.int .i64 ((rd_T24 l2 x50_2).f0), .int .i64 ((rd_T24 l2 x50_2).f1)] 24 (0, 0)) blk_ k_ hn_)), Or.elim hk_ (fun hs_ => fun e_ => (Kd.R_away HO_165000.out (fun _ hk => hk.1.1.2.2)) (by rw [← e_]; exact hs_)) (fun hn_ => (Kd.freshB (g := gb184) (o := .cells #[.int .i64 t182, .int .i64 t183] 24 (0, 0)) blk_ k_ hn_)), Or.elim hk_ (fun hs_ => fun e_ => (Kd.R_away HO_165000.out (fun _ hk => hk.1.2)) (by rw [← e_]; exact hs_)) (fun hn_ => (Kd.freshB (g := gb189) (o := .cells #[.int .i64 ((rd_T24 x165000_2 x61_3).f0), .int .i64 ((rd_T24 x165000_2 x61_3).f1)] 24 (0, 0)) blk_ k_ hn_))⟩)); have n9_ := zM (hb); clear BK158; clear BK159; clear BK160; clear BK164; clear BK178; clear BK184; clear BK189; clear HO193; clear HB; clear HO_165000; clear HO_59; have BK158 := n0_; have BK159 := n1_; have BK160 := n2_; have BK164 := n3_; have BK178 := n4_; have BK184 := n5_; have BK189 := n6_; have HO193 := n7_; have HO196 := n8_; have HB := n9_; clear n0_ n1_ n2_ n3_ n4_ n5_ n6_ n7_ n8_ n9_; (try clear hb); (try clear hkp); (try clear ho0); obtain ⟨Ao140, co140, eo140⟩ := Kd.R_slice HO196.out; subst eo140; have hcz141_0 : w139.cell? ⟨gb164, 0, none⟩ = some (.slice Ao137 x165000_3.length co137) := (zL BK164.out 0).trans rfl; have hcz141_1 : w139.cell? ⟨gb164, 1, none⟩ = some (.int .i64 t175) := (zL BK164.out 1).trans rfl; have hcz141_2 : w139.cell? ⟨gb164, 2, none⟩ = some (.int .i64 t176) := (zL BK164.out 2).trans rfl; have hfz141_0 := zF BK164.out 0; have hfz141_1 := zF BK164.out 1; have hfz141_2 := zF BK164.out 2))
        go_roundg k3
        case measure => have := HK1.out; have := HK2.out; have := HK3.out; omega
        case rel => exact ⟨(wrap64 (x50_2 + 1)), (t194), (.slice Ao140 t194.length co140), (by first | rfl | (simp; done) | (simp [*]; done) | (simp; grind)), H', ⟨by have := HK1.out; have := HK2.out; have := HK3.out; omega⟩, ⟨by (with_reducible repeat (first | apply Kd.R_alloc | apply Kd.R_drewN | apply Kd.R_drew)); exact Kd.R_mono (Kd.R_far (p := ⟨gb164, 0, none⟩) (Kd.R_types HO196.out BK164.out (by decide)) (fun _ hk => hk.2) (.slice Ao140 t194.length co140)) (fun _ hk => hk.1.2.1)⟩, ⟨blf_⟩, ⟨blf_⟩, ⟨blf_⟩, ⟨by (with_reducible repeat (first | refine zN ?_ _ | refine zD ?_ | refine zA ?_ _)); refine blk_put (cs := #[.slice Ao137 x165000_3.length co137, .int .i64 t175, .int .i64 t176]) ?_ 0 _ rfl; (with_reducible repeat (first | refine zN ?_ _ | refine zD ?_ | refine zA ?_ _)); exact BK164.out⟩, ⟨bel_⟩⟩
end Go.Proofs.Ytjfmhahlmnnacaa.PFrontTurns
