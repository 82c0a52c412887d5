/- Written by a program of this session (wip/tool/px.py) over the kit's print: what the code that the law ChangeTurns reaches computes, function by function, and the law's row. -/
import Derived.Test.YtbnhgckdplndfaaPChangeTurnsx0
import Derived.Test.YtbnhgckdplndfaaPChangeTurnsx1
import Derived.Test.YtbnhgckdplndfaaPChangeTurnsx2
namespace Go.Proofs.Ytbnhgckdplndfaa.PChangeTurns
open Go.RowKit Go.Proofs.YtbnhgckdplndfaaX Go.Proofs.YtbnhgckdplndfaaW.PrintWords Go.Proofs.YtbnhgckdplndfaaW.PrintLast Go.Proofs.YtbnhgckdplndfaaW.PrintMore
attribute [local go_sem] max2_int min2_int max_two min_two max_three min_three max_four min_four   -- for this text's walks alone
set_option linter.unusedVariables false
set_option linter.unusedSimpArgs false

attribute [local go_sem high] eqA38
/-! ### ropewaylaw04_ChangeTurns: function 14 -/
mutual
def ropewaylaw04_ChangeTurns.j0 : Nat → Bool → Int → Int → Int → Int → Int → Int → Option (Bool)
  | 0, _, _, _, _, _, _, _ => none
  | k + 1, x23, x139000, x139001, x140000, x140001, x141000, x141001 => if x23 = true then (some true) else ((change_Join.f k (([(⟨x139000, x139001⟩ : S38), (⟨x140000, x140001⟩ : S38), (⟨x141000, x141001⟩ : S38)] : List (S38)))).bind fun bt148 => ((change_Join.f k (([(⟨x140000, x140001⟩ : S38), (⟨x139000, x139001⟩ : S38)] : List (S38)))).bind fun bt154 => ((change_Join.f k (([(⟨x141000, x141001⟩ : S38), (⟨bt154.1, bt154.2⟩ : S38)] : List (S38)))).bind fun bt159 => (if (!(bt159.1 == bt148.1) || (!(bt159.2 == bt148.2))) = true then (ropewaylaw04_ChangeTurns.j1 k true x139000 x139001 x140000 x140001 x141000 x141001) else ((change_Join.f k (([(⟨x139000, x139001⟩ : S38), (⟨x139000, x139001⟩ : S38)] : List (S38)))).bind fun bt164 => (if (!(bt164.1 == x139000) || (!(bt164.2 == x139001))) = true then (ropewaylaw04_ChangeTurns.j1 k true x139000 x139001 x140000 x140001 x141000 x141001) else ((change_Within.f x139000 x139001 bt148.1 bt148.2).bind fun t166 => (if t166 = true then ((change_Right.f bt148.1 bt148.2).bind fun t167 => (ropewaylaw04_ChangeTurns.j1 k (!t167) x139000 x139001 x140000 x140001 x141000 x141001)) else (ropewaylaw04_ChangeTurns.j1 k true x139000 x139001 x140000 x140001 x141000 x141001)))))))))
def ropewaylaw04_ChangeTurns.j1 : Nat → Bool → Int → Int → Int → Int → Int → Int → Option (Bool)
  | 0, _, _, _, _, _, _, _ => none
  | k + 1, x56, x139000, x139001, x140000, x140001, x141000, x141001 => if x56 = true then (some false) else ((change_Within.f x139000 x139001 x141000 x141001).bind fun t168 => (if t168 = true then ((change_Within.f x140000 x140001 x141000 x141001).bind fun t169 => ((change_Join.f k (([(⟨x139000, x139001⟩ : S38), (⟨x140000, x140001⟩ : S38)] : List (S38)))).bind fun bt173 => ((change_Within.f bt173.1 bt173.2 x141000 x141001).bind fun t175 => (ropewaylaw04_ChangeTurns.j2 k (t169 != t175) x139000 x139001 x140000 x140001)))) else (ropewaylaw04_ChangeTurns.j2 k false x139000 x139001 x140000 x140001)))
def ropewaylaw04_ChangeTurns.j2 : Nat → Bool → Int → Int → Int → Int → Option (Bool)
  | 0, _, _, _, _, _ => none
  | k + 1, x71, x139000, x139001, x140000, x140001 => if x71 = true then (some false) else ((change_Minus.f x139000 x139001 x140000 x140001).bind fun bt176 => ((change_Minus.f x139000 x139001 x140000 x140001).bind fun bt179 => ((change_Join.f k (([(⟨bt179.1, bt179.2⟩ : S38), (⟨x140000, x140001⟩ : S38)] : List (S38)))).bind fun bt184 => ((change_Join.f k (([(⟨x139000, x139001⟩ : S38), (⟨x140000, x140001⟩ : S38)] : List (S38)))).bind fun bt189 => (if (bt184.1 == bt189.1 && (bt184.2 == bt189.2)) = true then ((change_Minus.f bt176.1 bt176.2 x140000 x140001).bind fun bt191 => (if (bt191.1 == bt176.1 && (bt191.2 == bt176.2)) = true then ((change_Join.f k (([(⟨x139000, x139001⟩ : S38), (⟨x140000, x140001⟩ : S38)] : List (S38)))).bind fun bt196 => ((change_Size.f bt196.1 bt196.2).bind fun t198 => ((change_Size.f x140000 x140001).bind fun t199 => ((change_Size.f bt176.1 bt176.2).bind fun t200 => (some (t198 == (wrap64 (t199 + t200)))))))) else (some false))) else (some false))))))
end
def ropewaylaw04_ChangeTurns.f (k : Nat) (a0_0 : Int) (a0_1 : Int) (a1_0 : Int) (a1_1 : Int) (a2_0 : Int) (a2_1 : Int) : Option (Bool) := (ropewaylaw04_changeAlive.f k).bind fun t141 => (if t141 = true then ((change_Right.f a0_0 a0_1).bind fun t142 => (if t142 = true then ((change_Right.f a1_0 a1_1).bind fun t143 => (if t143 = true then ((change_Right.f a2_0 a2_1).bind fun t144 => (ropewaylaw04_ChangeTurns.j0 k (!t144) a0_0 a0_1 a1_0 a1_1 a2_0 a2_1)) else (ropewaylaw04_ChangeTurns.j0 k true a0_0 a0_1 a1_0 a1_1 a2_0 a2_1))) else (ropewaylaw04_ChangeTurns.j0 k true a0_0 a0_1 a1_0 a1_1 a2_0 a2_1))) else (some false))
theorem ropewaylaw04_ChangeTurns.mono_l : ∀ k, (∀ y0 y1 y2 y3 y4 y5 y6, LeO (ropewaylaw04_ChangeTurns.j0 k y0 y1 y2 y3 y4 y5 y6) (ropewaylaw04_ChangeTurns.j0 (k + 1) y0 y1 y2 y3 y4 y5 y6)) ∧ (∀ y0 y1 y2 y3 y4 y5 y6, LeO (ropewaylaw04_ChangeTurns.j1 k y0 y1 y2 y3 y4 y5 y6) (ropewaylaw04_ChangeTurns.j1 (k + 1) y0 y1 y2 y3 y4 y5 y6)) ∧ (∀ y0 y1 y2 y3 y4, LeO (ropewaylaw04_ChangeTurns.j2 k y0 y1 y2 y3 y4) (ropewaylaw04_ChangeTurns.j2 (k + 1) y0 y1 y2 y3 y4))
  | 0 => ⟨fun _ _ _ _ _ _ _ r h => by simp [ropewaylaw04_ChangeTurns.j0] at h, fun _ _ _ _ _ _ _ r h => by simp [ropewaylaw04_ChangeTurns.j1] at h, fun _ _ _ _ _ r h => by simp [ropewaylaw04_ChangeTurns.j2] at h⟩
  | k + 1 => by
    obtain ⟨ih0, ih1, ih2⟩ := ropewaylaw04_ChangeTurns.mono_l k
    refine ⟨?_, ?_, ?_⟩
    · intro y0 y1 y2 y3 y4 y5 y6
      unfold ropewaylaw04_ChangeTurns.j0
      repeat' first
      | (with_reducible exact ih0 _ _ _ _ _ _ _)
      | (with_reducible exact ih1 _ _ _ _ _ _ _)
      | (with_reducible exact ih2 _ _ _ _ _)
      | (with_reducible exact change_Join.mono _ _)
      | (with_reducible exact ropewaylaw04_changeAlive.mono _)
      | (with_reducible exact LeO.refl _)
      | (with_reducible exact LeO.none _)
      | (with_reducible refine LeO.ite ?_ ?_)
      | (with_reducible refine LeO.bind ?_ (fun _ => ?_))
      | exact ih0 _ _ _ _ _ _ _
      | exact ih1 _ _ _ _ _ _ _
      | exact ih2 _ _ _ _ _
      | exact change_Join.mono _ _
      | exact ropewaylaw04_changeAlive.mono _
      | exact LeO.none _
      | refine LeO.ite ?_ ?_
      | refine LeO.bind ?_ (fun _ => ?_)
    · intro y0 y1 y2 y3 y4 y5 y6
      unfold ropewaylaw04_ChangeTurns.j1
      repeat' first
      | (with_reducible exact ih0 _ _ _ _ _ _ _)
      | (with_reducible exact ih1 _ _ _ _ _ _ _)
      | (with_reducible exact ih2 _ _ _ _ _)
      | (with_reducible exact change_Join.mono _ _)
      | (with_reducible exact ropewaylaw04_changeAlive.mono _)
      | (with_reducible exact LeO.refl _)
      | (with_reducible exact LeO.none _)
      | (with_reducible refine LeO.ite ?_ ?_)
      | (with_reducible refine LeO.bind ?_ (fun _ => ?_))
      | exact ih0 _ _ _ _ _ _ _
      | exact ih1 _ _ _ _ _ _ _
      | exact ih2 _ _ _ _ _
      | exact change_Join.mono _ _
      | exact ropewaylaw04_changeAlive.mono _
      | exact LeO.none _
      | refine LeO.ite ?_ ?_
      | refine LeO.bind ?_ (fun _ => ?_)
    · intro y0 y1 y2 y3 y4
      unfold ropewaylaw04_ChangeTurns.j2
      repeat' first
      | (with_reducible exact ih0 _ _ _ _ _ _ _)
      | (with_reducible exact ih1 _ _ _ _ _ _ _)
      | (with_reducible exact ih2 _ _ _ _ _)
      | (with_reducible exact change_Join.mono _ _)
      | (with_reducible exact ropewaylaw04_changeAlive.mono _)
      | (with_reducible exact LeO.refl _)
      | (with_reducible exact LeO.none _)
      | (with_reducible refine LeO.ite ?_ ?_)
      | (with_reducible refine LeO.bind ?_ (fun _ => ?_))
      | exact ih0 _ _ _ _ _ _ _
      | exact ih1 _ _ _ _ _ _ _
      | exact ih2 _ _ _ _ _
      | exact change_Join.mono _ _
      | exact ropewaylaw04_changeAlive.mono _
      | exact LeO.none _
      | refine LeO.ite ?_ ?_
      | refine LeO.bind ?_ (fun _ => ?_)
theorem ropewaylaw04_ChangeTurns.mono : ∀ a0 a1 a2 a3 a4 a5 k, LeO (ropewaylaw04_ChangeTurns.f k a0 a1 a2 a3 a4 a5) (ropewaylaw04_ChangeTurns.f (k + 1) a0 a1 a2 a3 a4 a5) := by
  intro a0 a1 a2 a3 a4 a5 k
  obtain ⟨ih0, ih1, ih2⟩ := ropewaylaw04_ChangeTurns.mono_l k
  unfold ropewaylaw04_ChangeTurns.f
  repeat' first
      | (with_reducible exact ih0 _ _ _ _ _ _ _)
      | (with_reducible exact ih1 _ _ _ _ _ _ _)
      | (with_reducible exact ih2 _ _ _ _ _)
      | (with_reducible exact change_Join.mono _ _)
      | (with_reducible exact ropewaylaw04_changeAlive.mono _)
      | (with_reducible exact LeO.refl _)
      | (with_reducible exact LeO.none _)
      | (with_reducible refine LeO.ite ?_ ?_)
      | (with_reducible refine LeO.bind ?_ (fun _ => ?_))
      | exact ih0 _ _ _ _ _ _ _
      | exact ih1 _ _ _ _ _ _ _
      | exact ih2 _ _ _ _ _
      | exact change_Join.mono _ _
      | exact ropewaylaw04_changeAlive.mono _
      | exact LeO.none _
      | refine LeO.ite ?_ ?_
      | refine LeO.bind ?_ (fun _ => ?_)
def ropewaylaw04_ChangeTurns.T6 : Bool × List (List Nat × List Nat) := (true, [([], []), ([], []), ([], []), ([1, 2], [1, 2]), ([3], [3]), ([0, 4], [0, 4]), ([5, 4], [5]), ([], []), ([6, 7], [6, 7]), ([8, 6], [8]), ([9], [9]), ([9], [9]), ([10, 11, 9], [9, 10, 11]), ([12, 9, 9], [9, 12]), ([9], [9]), ([13, 14, 9], [9, 13, 14]), ([9, 15], [9, 15]), ([16, 13], [16]), ([17], [17]), ([17], [17]), ([18, 19, 17, 17], [17, 18, 19]), ([20, 17], [17, 20]), ([17, 21], [17, 21]), ([22, 20], [22]), ([23], [23]), ([24, 23, 23], [23, 24]), ([25, 23], [23, 25]), ([23, 26], [23, 26])])
def ropewaylaw04_ChangeTurns.B6 : List Nat := [0, 0, 0, 6, 14, 31, 63, 0, 255, 511, 1023, 1023, 4095, 8191, 1023, 32767, 65535, 131071, 262143, 262143, 1048575, 2097151, 4194303, 8388607, 16777215, 33554431, 67108863, 134217727]
theorem ropewaylaw04_ChangeTurns.tab6 : rtab .any (opsOf Try.f14 6) = ropewaylaw04_ChangeTurns.T6 := by kernel_rfl
theorem ropewaylaw04_ChangeTurns.bits6 : waitsOk ropewaylaw04_ChangeTurns.T6.2 ropewaylaw04_ChangeTurns.B6 = true := by kernel_rfl
def ropewaylaw04_ChangeTurns.T8 : Bool × List (List Nat × List Nat) := (true, [([], []), ([], []), ([0, 1], [0, 1]), ([2, 2], [2]), ([3], [3]), ([3], [3]), ([4, 5, 3, 3], [3, 4, 5]), ([3], [3]), ([3], [3]), ([7, 8, 3], [3, 7, 8]), ([9, 6, 3], [3, 9]), ([3], [3]), ([10, 11, 10, 3], [3, 10, 11]), ([6, 12, 3], [3, 6, 12]), ([3, 13], [3, 13])])
def ropewaylaw04_ChangeTurns.B8 : List Nat := [0, 0, 3, 7, 15, 15, 63, 15, 15, 399, 1023, 15, 4095, 8191, 16383]
theorem ropewaylaw04_ChangeTurns.tab8 : rtab .any (opsOf Try.f14 8) = ropewaylaw04_ChangeTurns.T8 := by kernel_rfl
theorem ropewaylaw04_ChangeTurns.bits8 : waitsOk ropewaylaw04_ChangeTurns.T8.2 ropewaylaw04_ChangeTurns.B8 = true := by kernel_rfl
def ropewaylaw04_ChangeTurns.T11 : Bool × List (List Nat × List Nat) := (true, [([], []), ([], []), ([0, 1], [0, 1]), ([], []), ([2, 3], [2, 3]), ([4, 2], [4]), ([], []), ([], []), ([6, 7], [6, 7]), ([8, 5], [8]), ([5, 9], [5, 9]), ([10, 9], [10]), ([11], [11]), ([11], [11]), ([12, 13, 11, 11], [11, 12, 13]), ([11], [11]), ([14, 15, 11], [11, 14, 15]), ([11, 16], [11, 16]), ([17, 14], [17]), ([18], [18]), ([18], [18]), ([19, 20, 18], [18, 19, 20]), ([21, 18, 18], [18, 21]), ([22, 22, 18], [18, 22]), ([18], [18]), ([24, 23, 18], [18, 24]), ([18], [18]), ([26, 25, 18], [18, 26]), ([25, 27, 18], [18, 25, 27]), ([23, 28, 18], [18, 23, 28]), ([18, 29], [18, 29]), ([30, 27, 0, 1, 2, 3, 4, 5, 6, 7, 8, 9, 10, 11, 12, 13, 14, 15, 16, 17, 18, 19, 20, 21, 22, 23, 24, 25, 26, 27, 28, 29, 30], [30])])
def ropewaylaw04_ChangeTurns.B11 : List Nat := [0, 0, 3, 0, 15, 31, 0, 0, 192, 511, 1023, 2047, 4095, 4095, 16383, 4095, 65535, 131071, 262143, 524287, 524287, 2097151, 4194303, 8388607, 524287, 33554431, 524287, 134217727, 268435455, 536870911, 1073741823, 2147483647]
theorem ropewaylaw04_ChangeTurns.tab11 : rtab .any (opsOf Try.f14 11) = ropewaylaw04_ChangeTurns.T11 := by kernel_rfl
theorem ropewaylaw04_ChangeTurns.bits11 : waitsOk ropewaylaw04_ChangeTurns.T11.2 ropewaylaw04_ChangeTurns.B11 = true := by kernel_rfl
set_option maxHeartbeats 8000000 in
set_option maxRecDepth 100000 in
theorem ropewaylaw04_ChangeTurns.calls (k : Nat) (a0_0 : Int) (a0_1 : Int) (a1_0 : Int) (a1_1 : Int) (a2_0 : Int) (a2_1 : Int) (r : Bool) (w : World) (hr1_ : Aside0 (r = true)) (h : ropewaylaw04_ChangeTurns.f k a0_0 a0_1 a1_0 a1_1 a2_0 a2_1 = some r) :
    Calls Try.prog 14 #[.agg #[.int .i64 a0_0, .int .i64 a0_1], .agg #[.int .i64 a1_0, .int .i64 a1_1], .agg #[.int .i64 a2_0, .int .i64 a2_1]] w fun e w' => e = .returned (.bool r) ∧ Below w.heap.size w w' := by
  have hu38 := Try.underlying38
  have HB := Aside0.mk (Below.refl w.heap.size w)
  have H : ((ropewaylaw04_changeAlive.f k).bind fun t141 => (if t141 = true then ((change_Right.f a0_0 a0_1).bind fun t142 => (if t142 = true then ((change_Right.f a1_0 a1_1).bind fun t143 => (if t143 = true then ((change_Right.f a2_0 a2_1).bind fun t144 => (ropewaylaw04_ChangeTurns.j0 k (!t144) a0_0 a0_1 a1_0 a1_1 a2_0 a2_1)) else (ropewaylaw04_ChangeTurns.j0 k true a0_0 a0_1 a1_0 a1_1 a2_0 a2_1))) else (ropewaylaw04_ChangeTurns.j0 k true a0_0 a0_1 a1_0 a1_1 a2_0 a2_1))) else (some false))) = some r := h
  clear h
  replace H := Option.bind_eq_some_iff.mp H
  obtain ⟨t141, A40, H⟩ := H
  replace H : (if t141 = true then ((change_Right.f a0_0 a0_1).bind fun t142 => (if t142 = true then ((change_Right.f a1_0 a1_1).bind fun t143 => (if t143 = true then ((change_Right.f a2_0 a2_1).bind fun t144 => (ropewaylaw04_ChangeTurns.j0 k (!t144) a0_0 a0_1 a1_0 a1_1 a2_0 a2_1)) else (ropewaylaw04_ChangeTurns.j0 k true a0_0 a0_1 a1_0 a1_1 a2_0 a2_1))) else (ropewaylaw04_ChangeTurns.j0 k true a0_0 a0_1 a1_0 a1_1 a2_0 a2_1))) else (some false)) = some r := H
  have A4 := Aside0.mk A40
  clear A40
  by_cases c5 : t141 = true
  · subst c5
    have H1 : ((change_Right.f a0_0 a0_1).bind fun t142 => (if t142 = true then ((change_Right.f a1_0 a1_1).bind fun t143 => (if t143 = true then ((change_Right.f a2_0 a2_1).bind fun t144 => (ropewaylaw04_ChangeTurns.j0 k (!t144) a0_0 a0_1 a1_0 a1_1 a2_0 a2_1)) else (ropewaylaw04_ChangeTurns.j0 k true a0_0 a0_1 a1_0 a1_1 a2_0 a2_1))) else (ropewaylaw04_ChangeTurns.j0 k true a0_0 a0_1 a1_0 a1_1 a2_0 a2_1))) = some r := by rw [if_pos rfl] at H; exact H
    clear H
    have H := H1
    clear H1
    have HC6 := Aside0.mk H
    clear H
    go_enter Try.func14, Try.ntmps14
    go_upto_region 3 with (first | ((with_reducible refine gate_dst (N := 3) rfl ?_); (try (refine gate_guard (by rfl) ?_; dsimp only)); refine box_event ?hg (N := 3) ?hd (cs := #[.int .i64 a0_0, .int .i64 a0_1]) (t := 38) ?hr ?_; (case hd => rfl); (case hg => rfl); (case hr => first | (go_simp; done) | (go_simp; rfl)); intro gb138 hg w7 hbox hb; have n0_ := Aside0.mk (below_step bel_ hb); have n1_ := Aside0.mk (hbox); have n2_ := Aside0.mk ((by rw [hg]; exact (below_size bel_) : w.heap.size ≤ gb138)); have n3_ := Aside0.mk ((by rw [hg]; exact (below_size bel_) : w.heap.size ≤ gb138)); clear HB; have HB := n0_; have BK138 := n1_; have GW138 := n2_; have GE138 := n3_; clear n0_ n1_ n2_ n3_; clear hb hbox hg) | ((with_reducible refine gate_dst (N := 4) rfl ?_); (try (refine gate_guard (by rfl) ?_; dsimp only)); refine box_event ?hg (N := 4) ?hd (cs := #[.int .i64 a1_0, .int .i64 a1_1]) (t := 38) ?hr ?_; (case hd => rfl); (case hg => rfl); (case hr => first | (go_simp; done) | (go_simp; rfl)); intro gb139 hg w8 hbox hb; have n0_ := Aside0.mk (blk_below (g := gb138) (o := .cells #[.int .i64 a0_0, .int .i64 a0_1] 38 (0, 0)) blk_ hb); have n1_ := Aside0.mk (below_step bel_ hb); have n2_ := Aside0.mk (hbox); have n3_ := Aside0.mk ((by rw [hg]; exact (below_size bel_) : w.heap.size ≤ gb139)); have n4_ := Aside0.mk ((by rw [hg]; exact (below_size bel_) : w.heap.size ≤ gb139)); have n5_ := Aside0.mk ((by rw [hg]; exact Nat.ne_of_lt (blk_lt (g := gb138) (o := .cells #[.int .i64 a0_0, .int .i64 a0_1] 38 (0, 0)) blk_) : gb138 ≠ gb139)); have n6_ := Aside0.mk ((by rw [hg]; exact Nat.ne_of_gt (blk_lt (g := gb138) (o := .cells #[.int .i64 a0_0, .int .i64 a0_1] 38 (0, 0)) blk_) : gb139 ≠ gb138)); clear BK138; clear HB; have BK138 := n0_; have HB := n1_; have BK139 := n2_; have GW139 := n3_; have GE139 := n4_; have NB138_139 := n5_; have NB139_138 := n6_; clear n0_ n1_ n2_ n3_ n4_ n5_ n6_; clear hb hbox hg) | ((with_reducible refine gate_dst (N := 5) rfl ?_); (try (refine gate_guard (by rfl) ?_; dsimp only)); refine box_event ?hg (N := 5) ?hd (cs := #[.int .i64 a2_0, .int .i64 a2_1]) (t := 38) ?hr ?_; (case hd => rfl); (case hg => rfl); (case hr => first | (go_simp; done) | (go_simp; rfl)); intro gb140 hg w9 hbox hb; have n0_ := Aside0.mk (blk_below (g := gb138) (o := .cells #[.int .i64 a0_0, .int .i64 a0_1] 38 (0, 0)) blk_ hb); have n1_ := Aside0.mk (blk_below (g := gb139) (o := .cells #[.int .i64 a1_0, .int .i64 a1_1] 38 (0, 0)) blk_ hb); have n2_ := Aside0.mk (below_step bel_ hb); have n3_ := Aside0.mk (hbox); have n4_ := Aside0.mk ((by rw [hg]; exact (below_size bel_) : w.heap.size ≤ gb140)); have n5_ := Aside0.mk ((by rw [hg]; exact (below_size bel_) : w.heap.size ≤ gb140)); have n6_ := Aside0.mk ((by rw [hg]; exact Nat.ne_of_lt (blk_lt (g := gb138) (o := .cells #[.int .i64 a0_0, .int .i64 a0_1] 38 (0, 0)) blk_) : gb138 ≠ gb140)); have n7_ := Aside0.mk ((by rw [hg]; exact Nat.ne_of_gt (blk_lt (g := gb138) (o := .cells #[.int .i64 a0_0, .int .i64 a0_1] 38 (0, 0)) blk_) : gb140 ≠ gb138)); have n8_ := Aside0.mk ((by rw [hg]; exact Nat.ne_of_lt (blk_lt (g := gb139) (o := .cells #[.int .i64 a1_0, .int .i64 a1_1] 38 (0, 0)) blk_) : gb139 ≠ gb140)); have n9_ := Aside0.mk ((by rw [hg]; exact Nat.ne_of_gt (blk_lt (g := gb139) (o := .cells #[.int .i64 a1_0, .int .i64 a1_1] 38 (0, 0)) blk_) : gb140 ≠ gb139)); clear BK138; clear BK139; clear HB; have BK138 := n0_; have BK139 := n1_; have HB := n2_; have BK140 := n3_; have GW140 := n4_; have GE140 := n5_; have NB138_140 := n6_; have NB140_138 := n7_; have NB139_140 := n8_; have NB140_139 := n9_; clear n0_ n1_ n2_ n3_ n4_ n5_ n6_ n7_ n8_ n9_; clear hb hbox hg) | ((with_reducible refine gate_callee (f := 20) rfl ?_); refine goL_ (some 9) Try.func20 #[] ?_; (with_reducible refine (ropewaylaw04_changeAlive.calls k  true _ A4.out).mono ?_); rintro e w10 ⟨rfl, hb⟩; refine ⟨_, rfl, ?_⟩; have n0_ := Aside0.mk (blk_below (g := gb138) (o := .cells #[.int .i64 a0_0, .int .i64 a0_1] 38 (0, 0)) blk_ hb); have n1_ := Aside0.mk (blk_below (g := gb139) (o := .cells #[.int .i64 a1_0, .int .i64 a1_1] 38 (0, 0)) blk_ hb); have n2_ := Aside0.mk (blk_below (g := gb140) (o := .cells #[.int .i64 a2_0, .int .i64 a2_1] 38 (0, 0)) blk_ hb); have n3_ := Aside0.mk (below_step bel_ hb); clear BK138; clear BK139; clear BK140; clear HB; have BK138 := n0_; have BK139 := n1_; have BK140 := n2_; have HB := n3_; clear n0_ n1_ n2_ n3_; (try clear hb); (try clear hb2); (try clear hk); (try clear hi)))
    (try simp only [Act.put, List.setIfInBounds_toArray, List.set_cons_zero, List.set_cons_succ])
    go_cut [23] (fun v23 wc => ∃ (kq : Nat) (x23_5 : Bool), v23 = .bool x23_5 ∧ Aside0 (ropewaylaw04_ChangeTurns.j0 kq x23_5 a0_0 a0_1 a1_0 a1_1 a2_0 a2_1 = some r) ∧ Aside0 (kq ≤ k) ∧ Aside0 (wc.heap[gb138]? = some (.cells #[.int .i64 a0_0, .int .i64 a0_1] 38 (0, 0))) ∧ Aside0 (wc.heap[gb139]? = some (.cells #[.int .i64 a1_0, .int .i64 a1_1] 38 (0, 0))) ∧ Aside0 (wc.heap[gb140]? = some (.cells #[.int .i64 a2_0, .int .i64 a2_1] 38 (0, 0))) ∧ Aside0 (Below w.heap.size w wc))
    case first =>
      have H := HC6.out
      clear HC6
      replace H := Option.bind_eq_some_iff.mp H
      obtain ⟨t142, A110, H⟩ := H
      replace H : (if t142 = true then ((change_Right.f a1_0 a1_1).bind fun t143 => (if t143 = true then ((change_Right.f a2_0 a2_1).bind fun t144 => (ropewaylaw04_ChangeTurns.j0 k (!t144) a0_0 a0_1 a1_0 a1_1 a2_0 a2_1)) else (ropewaylaw04_ChangeTurns.j0 k true a0_0 a0_1 a1_0 a1_1 a2_0 a2_1))) else (ropewaylaw04_ChangeTurns.j0 k true a0_0 a0_1 a1_0 a1_1 a2_0 a2_1)) = some r := H
      have A11 := Aside0.mk A110
      clear A110
      by_cases c12 : t142 = true
      · subst c12
        have H1 : ((change_Right.f a1_0 a1_1).bind fun t143 => (if t143 = true then ((change_Right.f a2_0 a2_1).bind fun t144 => (ropewaylaw04_ChangeTurns.j0 k (!t144) a0_0 a0_1 a1_0 a1_1 a2_0 a2_1)) else (ropewaylaw04_ChangeTurns.j0 k true a0_0 a0_1 a1_0 a1_1 a2_0 a2_1))) = some r := by rw [if_pos rfl] at H; exact H
        clear H
        have H := H1
        clear H1
        replace H := Option.bind_eq_some_iff.mp H
        obtain ⟨t143, A130, H⟩ := H
        replace H : (if t143 = true then ((change_Right.f a2_0 a2_1).bind fun t144 => (ropewaylaw04_ChangeTurns.j0 k (!t144) a0_0 a0_1 a1_0 a1_1 a2_0 a2_1)) else (ropewaylaw04_ChangeTurns.j0 k true a0_0 a0_1 a1_0 a1_1 a2_0 a2_1)) = some r := H
        have A13 := Aside0.mk A130
        clear A130
        by_cases c14 : t143 = true
        · subst c14
          have H1 : ((change_Right.f a2_0 a2_1).bind fun t144 => (ropewaylaw04_ChangeTurns.j0 k (!t144) a0_0 a0_1 a1_0 a1_1 a2_0 a2_1)) = some r := by rw [if_pos rfl] at H; exact H
          clear H
          have H := H1
          clear H1
          replace H := Option.bind_eq_some_iff.mp H
          obtain ⟨t144, A150, H⟩ := H
          replace H : (ropewaylaw04_ChangeTurns.j0 k (!t144) a0_0 a0_1 a1_0 a1_1 a2_0 a2_1) = some r := H
          have A15 := Aside0.mk A150
          clear A150
          have H' := Aside0.mk H
          clear H
          have hnb16 := NB138_139.out
          have hnc16 := NB139_138.out
          have hnb17 := NB138_140.out
          have hnc17 := NB140_138.out
          have hcz18_0 : w10.cell? ⟨gb138, 0, none⟩ = some (.int .i64 a0_0) := (blk_cell BK138.out 0).trans rfl
          have hcz18_1 : w10.cell? ⟨gb138, 1, none⟩ = some (.int .i64 a0_1) := (blk_cell BK138.out 1).trans rfl
          have hfz18_0 := blk_frozen BK138.out 0
          have hfz18_1 := blk_frozen BK138.out 1
          go_wp2_with (first | ((with_reducible refine gate_callee (f := 27) rfl ?_); refine goL_ (some 12) Try.func27 #[.agg #[.int .i64 a0_0, .int .i64 a0_1]] ?_; (with_reducible refine (change_Right.calls a0_0 a0_1 true _ A11.out).mono ?_); rintro e w19 ⟨rfl, hb⟩; refine ⟨_, rfl, ?_⟩; have n0_ := Aside0.mk (blk_below (g := gb138) (o := .cells #[.int .i64 a0_0, .int .i64 a0_1] 38 (0, 0)) blk_ hb); have n1_ := Aside0.mk (blk_below (g := gb139) (o := .cells #[.int .i64 a1_0, .int .i64 a1_1] 38 (0, 0)) blk_ hb); have n2_ := Aside0.mk (blk_below (g := gb140) (o := .cells #[.int .i64 a2_0, .int .i64 a2_1] 38 (0, 0)) blk_ hb); have n3_ := Aside0.mk (below_step bel_ hb); clear BK138; clear BK139; clear BK140; clear HB; have BK138 := n0_; have BK139 := n1_; have BK140 := n2_; have HB := n3_; clear n0_ n1_ n2_ n3_; (try clear hb); (try clear hb2); (try clear hk); (try clear hi); have hnb20 := NB139_140.out; have hnc20 := NB140_139.out; have hcz21_0 : w19.cell? ⟨gb139, 0, none⟩ = some (.int .i64 a1_0) := (blk_cell BK139.out 0).trans rfl; have hcz21_1 : w19.cell? ⟨gb139, 1, none⟩ = some (.int .i64 a1_1) := (blk_cell BK139.out 1).trans rfl; have hfz21_0 := blk_frozen BK139.out 0; have hfz21_1 := blk_frozen BK139.out 1) | (go_at_call 27; (with_reducible refine (change_Right.calls a1_0 a1_1 true _ A13.out).mono ?_); rintro e w22 ⟨rfl, hb⟩; have n0_ := Aside0.mk (blk_below (g := gb138) (o := .cells #[.int .i64 a0_0, .int .i64 a0_1] 38 (0, 0)) blk_ hb); have n1_ := Aside0.mk (blk_below (g := gb139) (o := .cells #[.int .i64 a1_0, .int .i64 a1_1] 38 (0, 0)) blk_ hb); have n2_ := Aside0.mk (blk_below (g := gb140) (o := .cells #[.int .i64 a2_0, .int .i64 a2_1] 38 (0, 0)) blk_ hb); have n3_ := Aside0.mk (below_step bel_ hb); clear BK138; clear BK139; clear BK140; clear HB; have BK138 := n0_; have BK139 := n1_; have BK140 := n2_; have HB := n3_; clear n0_ n1_ n2_ n3_; (try clear hb); (try clear hb2); (try clear hk); (try clear hi); have hcz23_0 : w22.cell? ⟨gb140, 0, none⟩ = some (.int .i64 a2_0) := (blk_cell BK140.out 0).trans rfl; have hcz23_1 : w22.cell? ⟨gb140, 1, none⟩ = some (.int .i64 a2_1) := (blk_cell BK140.out 1).trans rfl; have hfz23_0 := blk_frozen BK140.out 0; have hfz23_1 := blk_frozen BK140.out 1) | (go_at_call 27; (with_reducible refine (change_Right.calls a2_0 a2_1 t144 _ A15.out).mono ?_); rintro e w24 ⟨rfl, hb⟩; have n0_ := Aside0.mk (blk_below (g := gb138) (o := .cells #[.int .i64 a0_0, .int .i64 a0_1] 38 (0, 0)) blk_ hb); have n1_ := Aside0.mk (blk_below (g := gb139) (o := .cells #[.int .i64 a1_0, .int .i64 a1_1] 38 (0, 0)) blk_ hb); have n2_ := Aside0.mk (blk_below (g := gb140) (o := .cells #[.int .i64 a2_0, .int .i64 a2_1] 38 (0, 0)) blk_ hb); have n3_ := Aside0.mk (below_step bel_ hb); clear BK138; clear BK139; clear BK140; clear HB; have BK138 := n0_; have BK139 := n1_; have BK140 := n2_; have HB := n3_; clear n0_ n1_ n2_ n3_; (try clear hb); (try clear hb2); (try clear hk); (try clear hi)))
          go_meet
          case rel => exact ⟨_, (!t144), (by first | rfl | (simp; done) | (simp [*]; done) | (simp; grind)), H', ⟨by first | omega | exact Nat.le_refl _⟩, ⟨by (with_reducible repeat (first | refine blk_drewN ?_ _ | refine blk_drew ?_ | refine blk_alloc ?_ _)); exact BK138.out⟩, ⟨by (with_reducible repeat (first | refine blk_drewN ?_ _ | refine blk_drew ?_ | refine blk_alloc ?_ _)); exact BK139.out⟩, ⟨by (with_reducible repeat (first | refine blk_drewN ?_ _ | refine blk_drew ?_ | refine blk_alloc ?_ _)); exact BK140.out⟩, ⟨bel_⟩⟩
        · replace c14 := Bool.eq_false_iff.mpr c14
          subst c14
          have H1 : (ropewaylaw04_ChangeTurns.j0 k true a0_0 a0_1 a1_0 a1_1 a2_0 a2_1) = some r := by rw [if_neg (show ¬ (false = true) by decide)] at H; exact H
          clear H
          have H := H1
          clear H1
          have H' := Aside0.mk H
          clear H
          have hnb25 := NB138_139.out
          have hnc25 := NB139_138.out
          have hnb26 := NB138_140.out
          have hnc26 := NB140_138.out
          have hcz27_0 : w10.cell? ⟨gb138, 0, none⟩ = some (.int .i64 a0_0) := (blk_cell BK138.out 0).trans rfl
          have hcz27_1 : w10.cell? ⟨gb138, 1, none⟩ = some (.int .i64 a0_1) := (blk_cell BK138.out 1).trans rfl
          have hfz27_0 := blk_frozen BK138.out 0
          have hfz27_1 := blk_frozen BK138.out 1
          go_wp2_with (first | ((with_reducible refine gate_callee (f := 27) rfl ?_); refine goL_ (some 12) Try.func27 #[.agg #[.int .i64 a0_0, .int .i64 a0_1]] ?_; (with_reducible refine (change_Right.calls a0_0 a0_1 true _ A11.out).mono ?_); rintro e w28 ⟨rfl, hb⟩; refine ⟨_, rfl, ?_⟩; have n0_ := Aside0.mk (blk_below (g := gb138) (o := .cells #[.int .i64 a0_0, .int .i64 a0_1] 38 (0, 0)) blk_ hb); have n1_ := Aside0.mk (blk_below (g := gb139) (o := .cells #[.int .i64 a1_0, .int .i64 a1_1] 38 (0, 0)) blk_ hb); have n2_ := Aside0.mk (blk_below (g := gb140) (o := .cells #[.int .i64 a2_0, .int .i64 a2_1] 38 (0, 0)) blk_ hb); have n3_ := Aside0.mk (below_step bel_ hb); clear BK138; clear BK139; clear BK140; clear HB; have BK138 := n0_; have BK139 := n1_; have BK140 := n2_; have HB := n3_; clear n0_ n1_ n2_ n3_; (try clear hb); (try clear hb2); (try clear hk); (try clear hi); have hnb29 := NB139_140.out; have hnc29 := NB140_139.out; have hcz30_0 : w28.cell? ⟨gb139, 0, none⟩ = some (.int .i64 a1_0) := (blk_cell BK139.out 0).trans rfl; have hcz30_1 : w28.cell? ⟨gb139, 1, none⟩ = some (.int .i64 a1_1) := (blk_cell BK139.out 1).trans rfl; have hfz30_0 := blk_frozen BK139.out 0; have hfz30_1 := blk_frozen BK139.out 1) | (go_at_call 27; (with_reducible refine (change_Right.calls a1_0 a1_1 false _ A13.out).mono ?_); rintro e w31 ⟨rfl, hb⟩; have n0_ := Aside0.mk (blk_below (g := gb138) (o := .cells #[.int .i64 a0_0, .int .i64 a0_1] 38 (0, 0)) blk_ hb); have n1_ := Aside0.mk (blk_below (g := gb139) (o := .cells #[.int .i64 a1_0, .int .i64 a1_1] 38 (0, 0)) blk_ hb); have n2_ := Aside0.mk (blk_below (g := gb140) (o := .cells #[.int .i64 a2_0, .int .i64 a2_1] 38 (0, 0)) blk_ hb); have n3_ := Aside0.mk (below_step bel_ hb); clear BK138; clear BK139; clear BK140; clear HB; have BK138 := n0_; have BK139 := n1_; have BK140 := n2_; have HB := n3_; clear n0_ n1_ n2_ n3_; (try clear hb); (try clear hb2); (try clear hk); (try clear hi)))
          go_meet
          case rel => exact ⟨_, (true), (by first | rfl | (simp; done) | (simp [*]; done) | (simp; grind)), H', ⟨by first | omega | exact Nat.le_refl _⟩, ⟨by (with_reducible repeat (first | refine blk_drewN ?_ _ | refine blk_drew ?_ | refine blk_alloc ?_ _)); exact BK138.out⟩, ⟨by (with_reducible repeat (first | refine blk_drewN ?_ _ | refine blk_drew ?_ | refine blk_alloc ?_ _)); exact BK139.out⟩, ⟨by (with_reducible repeat (first | refine blk_drewN ?_ _ | refine blk_drew ?_ | refine blk_alloc ?_ _)); exact BK140.out⟩, ⟨bel_⟩⟩
      · replace c12 := Bool.eq_false_iff.mpr c12
        subst c12
        have H1 : (ropewaylaw04_ChangeTurns.j0 k true a0_0 a0_1 a1_0 a1_1 a2_0 a2_1) = some r := by rw [if_neg (show ¬ (false = true) by decide)] at H; exact H
        clear H
        have H := H1
        clear H1
        have H' := Aside0.mk H
        clear H
        have hnb32 := NB138_139.out
        have hnc32 := NB139_138.out
        have hnb33 := NB138_140.out
        have hnc33 := NB140_138.out
        have hcz34_0 : w10.cell? ⟨gb138, 0, none⟩ = some (.int .i64 a0_0) := (blk_cell BK138.out 0).trans rfl
        have hcz34_1 : w10.cell? ⟨gb138, 1, none⟩ = some (.int .i64 a0_1) := (blk_cell BK138.out 1).trans rfl
        have hfz34_0 := blk_frozen BK138.out 0
        have hfz34_1 := blk_frozen BK138.out 1
        go_wp2_with (first | ((with_reducible refine gate_callee (f := 27) rfl ?_); refine goL_ (some 12) Try.func27 #[.agg #[.int .i64 a0_0, .int .i64 a0_1]] ?_; (with_reducible refine (change_Right.calls a0_0 a0_1 false _ A11.out).mono ?_); rintro e w35 ⟨rfl, hb⟩; refine ⟨_, rfl, ?_⟩; have n0_ := Aside0.mk (blk_below (g := gb138) (o := .cells #[.int .i64 a0_0, .int .i64 a0_1] 38 (0, 0)) blk_ hb); have n1_ := Aside0.mk (blk_below (g := gb139) (o := .cells #[.int .i64 a1_0, .int .i64 a1_1] 38 (0, 0)) blk_ hb); have n2_ := Aside0.mk (blk_below (g := gb140) (o := .cells #[.int .i64 a2_0, .int .i64 a2_1] 38 (0, 0)) blk_ hb); have n3_ := Aside0.mk (below_step bel_ hb); clear BK138; clear BK139; clear BK140; clear HB; have BK138 := n0_; have BK139 := n1_; have BK140 := n2_; have HB := n3_; clear n0_ n1_ n2_ n3_; (try clear hb); (try clear hb2); (try clear hk); (try clear hi)))
        go_meet
        case rel => exact ⟨_, (true), (by first | rfl | (simp; done) | (simp [*]; done) | (simp; grind)), H', ⟨by first | omega | exact Nat.le_refl _⟩, ⟨by (with_reducible repeat (first | refine blk_drewN ?_ _ | refine blk_drew ?_ | refine blk_alloc ?_ _)); exact BK138.out⟩, ⟨by (with_reducible repeat (first | refine blk_drewN ?_ _ | refine blk_drew ?_ | refine blk_alloc ?_ _)); exact BK139.out⟩, ⟨by (with_reducible repeat (first | refine blk_drewN ?_ _ | refine blk_drew ?_ | refine blk_alloc ?_ _)); exact BK140.out⟩, ⟨bel_⟩⟩
    case rest =>
      clear HC6
      try clear c1
      try clear c2
      try clear p2
      try clear c3
      try clear c5
      try clear c12
      try clear c14
      try clear c16
      try clear c17
      try clear c20
      try clear c25
      try clear c26
      try clear c27
      try clear c29
      try clear c32
      try clear c33
      try clear hcz18_0
      try clear hcz18_1
      try clear hcz21_0
      try clear hcz21_1
      try clear hcz23_0
      try clear hcz23_1
      try clear hcz27_0
      try clear hcz27_1
      try clear hcz30_0
      try clear hcz30_1
      try clear hcz34_0
      try clear hcz34_1
      try clear hfz18_0
      try clear hfz18_1
      try clear hfz21_0
      try clear hfz21_1
      try clear hfz23_0
      try clear hfz23_1
      try clear hfz27_0
      try clear hfz27_1
      try clear hfz30_0
      try clear hfz30_1
      try clear hfz34_0
      try clear hfz34_1
      obtain ⟨kq, x23_5, rfl, HA, HJ5, BK138, BK139, BK140, HB⟩ := hcut
      cases kq with
      | zero => exact absurd HA.out (by simp [ropewaylaw04_ChangeTurns.j0])
      | succ kj5 =>
        have H := HA.out
        clear HA
        simp only [ropewaylaw04_ChangeTurns.j0] at H
        by_cases c36 : x23_5 = true
        · subst c36
          have H1 : (some true) = some r := by rw [if_pos rfl] at H; exact H
          clear H
          have H := H1
          clear H1
          obtain rfl := Option.some.inj H
          go_wp2
          go_ret
          exact ⟨by first | rfl | (simp [errW_none, errW_some] <;> rfl) | (simp [*, errW_none, errW_some] <;> rfl), bel_⟩
        · replace c36 := Bool.eq_false_iff.mpr c36
          subst c36
          have H1 : ((change_Join.f kj5 (([(⟨a0_0, a0_1⟩ : S38), (⟨a1_0, a1_1⟩ : S38), (⟨a2_0, a2_1⟩ : S38)] : List (S38)))).bind fun bt148 => ((change_Join.f kj5 (([(⟨a1_0, a1_1⟩ : S38), (⟨a0_0, a0_1⟩ : S38)] : List (S38)))).bind fun bt154 => ((change_Join.f kj5 (([(⟨a2_0, a2_1⟩ : S38), (⟨bt154.1, bt154.2⟩ : S38)] : List (S38)))).bind fun bt159 => (if (!(bt159.1 == bt148.1) || (!(bt159.2 == bt148.2))) = true then (ropewaylaw04_ChangeTurns.j1 kj5 true a0_0 a0_1 a1_0 a1_1 a2_0 a2_1) else ((change_Join.f kj5 (([(⟨a0_0, a0_1⟩ : S38), (⟨a0_0, a0_1⟩ : S38)] : List (S38)))).bind fun bt164 => (if (!(bt164.1 == a0_0) || (!(bt164.2 == a0_1))) = true then (ropewaylaw04_ChangeTurns.j1 kj5 true a0_0 a0_1 a1_0 a1_1 a2_0 a2_1) else ((change_Within.f a0_0 a0_1 bt148.1 bt148.2).bind fun t166 => (if t166 = true then ((change_Right.f bt148.1 bt148.2).bind fun t167 => (ropewaylaw04_ChangeTurns.j1 kj5 (!t167) a0_0 a0_1 a1_0 a1_1 a2_0 a2_1)) else (ropewaylaw04_ChangeTurns.j1 kj5 true a0_0 a0_1 a1_0 a1_1 a2_0 a2_1))))))))) = some r := by rw [if_neg (show ¬ (false = true) by decide)] at H; exact H
          clear H
          have H := H1
          clear H1
          obtain ⟨y145, hy145⟩ : ∃ y_ : List (S38), y_ = (([(⟨a0_0, a0_1⟩ : S38), (⟨a1_0, a1_1⟩ : S38), (⟨a2_0, a2_1⟩ : S38)] : List (S38))) := ⟨_, rfl⟩
          replace H : ((change_Join.f kj5 y145).bind fun bt148 => ((change_Join.f kj5 (([(⟨a1_0, a1_1⟩ : S38), (⟨a0_0, a0_1⟩ : S38)] : List (S38)))).bind fun bt154 => ((change_Join.f kj5 (([(⟨a2_0, a2_1⟩ : S38), (⟨bt154.1, bt154.2⟩ : S38)] : List (S38)))).bind fun bt159 => (if (!(bt159.1 == bt148.1) || (!(bt159.2 == bt148.2))) = true then (ropewaylaw04_ChangeTurns.j1 kj5 true a0_0 a0_1 a1_0 a1_1 a2_0 a2_1) else ((change_Join.f kj5 (([(⟨a0_0, a0_1⟩ : S38), (⟨a0_0, a0_1⟩ : S38)] : List (S38)))).bind fun bt164 => (if (!(bt164.1 == a0_0) || (!(bt164.2 == a0_1))) = true then (ropewaylaw04_ChangeTurns.j1 kj5 true a0_0 a0_1 a1_0 a1_1 a2_0 a2_1) else ((change_Within.f a0_0 a0_1 bt148.1 bt148.2).bind fun t166 => (if t166 = true then ((change_Right.f bt148.1 bt148.2).bind fun t167 => (ropewaylaw04_ChangeTurns.j1 kj5 (!t167) a0_0 a0_1 a1_0 a1_1 a2_0 a2_1)) else (ropewaylaw04_ChangeTurns.j1 kj5 true a0_0 a0_1 a1_0 a1_1 a2_0 a2_1))))))))) = some r := by first | (rw [hy145]; with_reducible exact H) | (have H2_ := (Option.bind_some _ _).symm.trans H; rw [hy145]; with_reducible exact H2_) | (have H2_ := (Option.bind_some _ _).symm.trans H; with_reducible exact H2_) | with_reducible exact H | (rw [hy145]; exact H) | exact H
          have Ny145 := Aside0.mk hy145
          clear hy145
          replace H := Option.bind_eq_some_iff.mp H
          obtain ⟨⟨t148, t149⟩, A370, H⟩ := H
          replace H : ((change_Join.f kj5 (([(⟨a1_0, a1_1⟩ : S38), (⟨a0_0, a0_1⟩ : S38)] : List (S38)))).bind fun bt154 => ((change_Join.f kj5 (([(⟨a2_0, a2_1⟩ : S38), (⟨bt154.1, bt154.2⟩ : S38)] : List (S38)))).bind fun bt159 => (if (!(bt159.1 == t148) || (!(bt159.2 == t149))) = true then (ropewaylaw04_ChangeTurns.j1 kj5 true a0_0 a0_1 a1_0 a1_1 a2_0 a2_1) else ((change_Join.f kj5 (([(⟨a0_0, a0_1⟩ : S38), (⟨a0_0, a0_1⟩ : S38)] : List (S38)))).bind fun bt164 => (if (!(bt164.1 == a0_0) || (!(bt164.2 == a0_1))) = true then (ropewaylaw04_ChangeTurns.j1 kj5 true a0_0 a0_1 a1_0 a1_1 a2_0 a2_1) else ((change_Within.f a0_0 a0_1 t148 t149).bind fun t166 => (if t166 = true then ((change_Right.f t148 t149).bind fun t167 => (ropewaylaw04_ChangeTurns.j1 kj5 (!t167) a0_0 a0_1 a1_0 a1_1 a2_0 a2_1)) else (ropewaylaw04_ChangeTurns.j1 kj5 true a0_0 a0_1 a1_0 a1_1 a2_0 a2_1)))))))) = some r := H
          have A37 := Aside0.mk A370
          clear A370
          have HC38 := Aside0.mk H
          clear H
          have hnb39 := NB138_139.out
          have hnc39 := NB139_138.out
          have hnb40 := NB138_140.out
          have hnc40 := NB140_138.out
          have hcz41_0 : wc.cell? ⟨gb138, 0, none⟩ = some (.int .i64 a0_0) := (blk_cell BK138.out 0).trans rfl
          have hcz41_1 : wc.cell? ⟨gb138, 1, none⟩ = some (.int .i64 a0_1) := (blk_cell BK138.out 1).trans rfl
          have hfz41_0 := blk_frozen BK138.out 0
          have hfz41_1 := blk_frozen BK138.out 1
          have hnb42 := NB139_140.out
          have hnc42 := NB140_139.out
          have hcz43_0 : wc.cell? ⟨gb139, 0, none⟩ = some (.int .i64 a1_0) := (blk_cell BK139.out 0).trans rfl
          have hcz43_1 : wc.cell? ⟨gb139, 1, none⟩ = some (.int .i64 a1_1) := (blk_cell BK139.out 1).trans rfl
          have hfz43_0 := blk_frozen BK139.out 0
          have hfz43_1 := blk_frozen BK139.out 1
          have hcz44_0 : wc.cell? ⟨gb140, 0, none⟩ = some (.int .i64 a2_0) := (blk_cell BK140.out 0).trans rfl
          have hcz44_1 : wc.cell? ⟨gb140, 1, none⟩ = some (.int .i64 a2_1) := (blk_cell BK140.out 1).trans rfl
          have hfz44_0 := blk_frozen BK140.out 0
          have hfz44_1 := blk_frozen BK140.out 1
          go_upto_region 6 with (first | ((with_reducible refine gate_dst (N := 27) rfl ?_); (try (refine gate_guard (by rfl) ?_; dsimp only)); refine Kd.R_lit k38 _ 38 ?hg (N := 27) ?hd (xs := ([(⟨a0_0, a0_1⟩ : S38), (⟨a1_0, a1_1⟩ : S38), (⟨a2_0, a2_1⟩ : S38)] : List (S38))) (inner := [.int .i64 a0_0, .int .i64 a0_1, .int .i64 a1_0, .int .i64 a1_1, .int .i64 a2_0, .int .i64 a2_1]) (ok := fun _ => True) (okp := fun _ => True) ?hr ?hp (fun _ hk => hk) trivial (Below.refl _ _) (Nat.le_refl _) (by simp) ?_; (case hd => rfl); (case hg => rfl); (case hr => first | (go_simp; done) | (go_simp; rfl)); (case hp => exact (Reps.c2 (show Kd.M k38 _ _ _ (⟨a0_0, a0_1⟩ : S38) [.int .i64 a0_0, .int .i64 a0_1] from (k38_mkM _ _ _ (⟨a0_0, a0_1⟩ : S38) )) (Reps.c2 (show Kd.M k38 _ _ _ (⟨a1_0, a1_1⟩ : S38) [.int .i64 a1_0, .int .i64 a1_1] from (k38_mkM _ _ _ (⟨a1_0, a1_1⟩ : S38) )) (Reps.c2 (show Kd.M k38 _ _ _ (⟨a2_0, a2_1⟩ : S38) [.int .i64 a2_0, .int .i64 a2_1] from (k38_mkM _ _ _ (⟨a2_0, a2_1⟩ : S38) )) (Reps.none _ _))))); intro v146 w45 ho46 hb hg_ hnew_; clear hg_ hnew_; (first | rw [← Ny145.out] at ho46 | (simp only [Int.reduceToNat] at ho46; rw [← Ny145.out] at ho46)); have n0_ := Aside0.mk (Kd.R_lower (Kd.R_newB (Kd.R_newB (Kd.R_newB ho46 (g := gb138) (o := .cells #[.int .i64 a0_0, .int .i64 a0_1] 38 (0, 0)) blk_) (g := gb139) (o := .cells #[.int .i64 a1_0, .int .i64 a1_1] 38 (0, 0)) blk_) (g := gb140) (o := .cells #[.int .i64 a2_0, .int .i64 a2_1] 38 (0, 0)) blk_) (below_size bel_)); have n1_ := Aside0.mk (blk_below (g := gb138) (o := .cells #[.int .i64 a0_0, .int .i64 a0_1] 38 (0, 0)) blk_ hb); have n2_ := Aside0.mk (blk_below (g := gb139) (o := .cells #[.int .i64 a1_0, .int .i64 a1_1] 38 (0, 0)) blk_ hb); have n3_ := Aside0.mk (blk_below (g := gb140) (o := .cells #[.int .i64 a2_0, .int .i64 a2_1] 38 (0, 0)) blk_ hb); have n4_ := Aside0.mk (below_step bel_ hb); clear BK138; clear BK139; clear BK140; clear HB; have HO147 := n0_; have BK138 := n1_; have BK139 := n2_; have BK140 := n3_; have HB := n4_; clear n0_ n1_ n2_ n3_ n4_; clear hb ho46; obtain ⟨Ao47, co47, eo47⟩ := Kd.R_slice HO147.out; subst eo47) | ((with_reducible refine gate_callee (f := 26) rfl ?_); refine goL_ (some 28) Try.func26 #[.slice Ao47 y145.length co47] ?_; (with_reducible refine (change_Join.calls kj5 _ _ y145 t148 t149 _ ?side1 ?side2 A37.out).mono ?_); (case side1 => repeat (first | exact (Kd.R_reads' HO147.out).2.2 | (with_reducible refine Kd.C_alloc ?_ _) | (with_reducible refine Kd.C_drewN ?_ _) | (with_reducible refine Kd.C_drew ?_))); (case side2 => exact (Kd.R_reads' HO147.out).2.1); rintro e w48 ⟨rfl, hb⟩; refine ⟨_, rfl, ?_⟩; have n0_ := Aside0.mk (Kd.R_below (by (with_reducible repeat (first | apply Kd.R_alloc | apply Kd.R_drewN | apply Kd.R_drew)); exact HO147.out) hb); have n1_ := Aside0.mk (blk_below (g := gb138) (o := .cells #[.int .i64 a0_0, .int .i64 a0_1] 38 (0, 0)) blk_ hb); have n2_ := Aside0.mk (blk_below (g := gb139) (o := .cells #[.int .i64 a1_0, .int .i64 a1_1] 38 (0, 0)) blk_ hb); have n3_ := Aside0.mk (blk_below (g := gb140) (o := .cells #[.int .i64 a2_0, .int .i64 a2_1] 38 (0, 0)) blk_ hb); have n4_ := Aside0.mk (below_step bel_ hb); clear HO147; clear BK138; clear BK139; clear BK140; clear HB; have HO147 := n0_; have BK138 := n1_; have BK139 := n2_; have BK140 := n3_; have HB := n4_; clear n0_ n1_ n2_ n3_ n4_; (try clear hb); (try clear hb2); (try clear hk); (try clear hi)) | ((with_reducible refine gate_dst (N := 7) rfl ?_); (try (refine gate_guard (by rfl) ?_; dsimp only)); refine box_event ?hg (N := 7) ?hd (cs := #[.int .i64 0, .int .i64 0]) (t := 38) ?hr ?_; (case hd => rfl); (case hg => rfl); (case hr => first | (go_simp; done) | (go_simp; rfl)); intro gb150 hg w49 hbox hb; have n0_ := Aside0.mk (Kd.R_below (Kd.R_elderB (by (with_reducible repeat (first | apply Kd.R_alloc | apply Kd.R_drewN | apply Kd.R_drew)); exact HO147.out) gb150 (Nat.le_of_eq hg.symm)) hb); have n1_ := Aside0.mk (blk_below (g := gb138) (o := .cells #[.int .i64 a0_0, .int .i64 a0_1] 38 (0, 0)) blk_ hb); have n2_ := Aside0.mk (blk_below (g := gb139) (o := .cells #[.int .i64 a1_0, .int .i64 a1_1] 38 (0, 0)) blk_ hb); have n3_ := Aside0.mk (blk_below (g := gb140) (o := .cells #[.int .i64 a2_0, .int .i64 a2_1] 38 (0, 0)) blk_ hb); have n4_ := Aside0.mk (below_step bel_ hb); have n5_ := Aside0.mk (hbox); have n6_ := Aside0.mk ((by rw [hg]; exact (below_size bel_) : w.heap.size ≤ gb150)); have n7_ := Aside0.mk ((by rw [hg]; exact (below_size bel_) : w.heap.size ≤ gb150)); have n8_ := Aside0.mk ((by rw [hg]; exact Nat.ne_of_lt (blk_lt (g := gb138) (o := .cells #[.int .i64 a0_0, .int .i64 a0_1] 38 (0, 0)) blk_) : gb138 ≠ gb150)); have n9_ := Aside0.mk ((by rw [hg]; exact Nat.ne_of_gt (blk_lt (g := gb138) (o := .cells #[.int .i64 a0_0, .int .i64 a0_1] 38 (0, 0)) blk_) : gb150 ≠ gb138)); have n10_ := Aside0.mk ((by rw [hg]; exact Nat.ne_of_lt (blk_lt (g := gb139) (o := .cells #[.int .i64 a1_0, .int .i64 a1_1] 38 (0, 0)) blk_) : gb139 ≠ gb150)); have n11_ := Aside0.mk ((by rw [hg]; exact Nat.ne_of_gt (blk_lt (g := gb139) (o := .cells #[.int .i64 a1_0, .int .i64 a1_1] 38 (0, 0)) blk_) : gb150 ≠ gb139)); have n12_ := Aside0.mk ((by rw [hg]; exact Nat.ne_of_lt (blk_lt (g := gb140) (o := .cells #[.int .i64 a2_0, .int .i64 a2_1] 38 (0, 0)) blk_) : gb140 ≠ gb150)); have n13_ := Aside0.mk ((by rw [hg]; exact Nat.ne_of_gt (blk_lt (g := gb140) (o := .cells #[.int .i64 a2_0, .int .i64 a2_1] 38 (0, 0)) blk_) : gb150 ≠ gb140)); clear HO147; clear BK138; clear BK139; clear BK140; clear HB; have HO147 := n0_; have BK138 := n1_; have BK139 := n2_; have BK140 := n3_; have HB := n4_; have BK150 := n5_; have GW150 := n6_; have GE150 := n7_; have NB138_150 := n8_; have NB150_138 := n9_; have NB139_150 := n10_; have NB150_139 := n11_; have NB140_150 := n12_; have NB150_140 := n13_; clear n0_ n1_ n2_ n3_ n4_ n5_ n6_ n7_ n8_ n9_ n10_ n11_ n12_ n13_; clear hb hbox hg; have hnb50 := NB150_138.out; have hnc50 := NB138_150.out; have hnb51 := NB150_139.out; have hnc51 := NB139_150.out; have hnb52 := NB150_140.out; have hnc52 := NB140_150.out; have hcz53_0 : w49.cell? ⟨gb150, 0, none⟩ = some (.int .i64 0) := (blk_cell BK150.out 0).trans rfl; have hcz53_1 : w49.cell? ⟨gb150, 1, none⟩ = some (.int .i64 0) := (blk_cell BK150.out 1).trans rfl; have hfz53_0 := blk_frozen BK150.out 0; have hfz53_1 := blk_frozen BK150.out 1))
          (try simp only [Act.put, List.setIfInBounds_toArray, List.set_cons_zero, List.set_cons_succ])
          go_cut [56] (fun v56 wc => ∃ (kq : Nat) (x56_37 : Bool), v56 = .bool x56_37 ∧ Aside0 (ropewaylaw04_ChangeTurns.j1 kq x56_37 a0_0 a0_1 a1_0 a1_1 a2_0 a2_1 = some r) ∧ Aside0 (kq ≤ kj5) ∧ Aside0 (wc.heap[gb138]? = some (.cells #[.int .i64 a0_0, .int .i64 a0_1] 38 (0, 0))) ∧ Aside0 (wc.heap[gb139]? = some (.cells #[.int .i64 a1_0, .int .i64 a1_1] 38 (0, 0))) ∧ Aside0 (wc.heap[gb140]? = some (.cells #[.int .i64 a2_0, .int .i64 a2_1] 38 (0, 0))) ∧ Aside0 (wc.heap[gb150]? = some (.cells #[.int .i64 t148, .int .i64 t149] 38 (0, 0))) ∧ Aside0 (Below w.heap.size w wc))
          case first =>
            have H := HC38.out
            clear HC38
            obtain ⟨y151, hy151⟩ : ∃ y_ : List (S38), y_ = (([(⟨a1_0, a1_1⟩ : S38), (⟨a0_0, a0_1⟩ : S38)] : List (S38))) := ⟨_, rfl⟩
            replace H : ((change_Join.f kj5 y151).bind fun bt154 => ((change_Join.f kj5 (([(⟨a2_0, a2_1⟩ : S38), (⟨bt154.1, bt154.2⟩ : S38)] : List (S38)))).bind fun bt159 => (if (!(bt159.1 == t148) || (!(bt159.2 == t149))) = true then (ropewaylaw04_ChangeTurns.j1 kj5 true a0_0 a0_1 a1_0 a1_1 a2_0 a2_1) else ((change_Join.f kj5 (([(⟨a0_0, a0_1⟩ : S38), (⟨a0_0, a0_1⟩ : S38)] : List (S38)))).bind fun bt164 => (if (!(bt164.1 == a0_0) || (!(bt164.2 == a0_1))) = true then (ropewaylaw04_ChangeTurns.j1 kj5 true a0_0 a0_1 a1_0 a1_1 a2_0 a2_1) else ((change_Within.f a0_0 a0_1 t148 t149).bind fun t166 => (if t166 = true then ((change_Right.f t148 t149).bind fun t167 => (ropewaylaw04_ChangeTurns.j1 kj5 (!t167) a0_0 a0_1 a1_0 a1_1 a2_0 a2_1)) else (ropewaylaw04_ChangeTurns.j1 kj5 true a0_0 a0_1 a1_0 a1_1 a2_0 a2_1)))))))) = some r := by first | (rw [hy151]; with_reducible exact H) | (have H2_ := (Option.bind_some _ _).symm.trans H; rw [hy151]; with_reducible exact H2_) | (have H2_ := (Option.bind_some _ _).symm.trans H; with_reducible exact H2_) | with_reducible exact H | (rw [hy151]; exact H) | exact H
            have Ny151 := Aside0.mk hy151
            clear hy151
            replace H := Option.bind_eq_some_iff.mp H
            obtain ⟨⟨t154, t155⟩, A540, H⟩ := H
            replace H : ((change_Join.f kj5 (([(⟨a2_0, a2_1⟩ : S38), (⟨t154, t155⟩ : S38)] : List (S38)))).bind fun bt159 => (if (!(bt159.1 == t148) || (!(bt159.2 == t149))) = true then (ropewaylaw04_ChangeTurns.j1 kj5 true a0_0 a0_1 a1_0 a1_1 a2_0 a2_1) else ((change_Join.f kj5 (([(⟨a0_0, a0_1⟩ : S38), (⟨a0_0, a0_1⟩ : S38)] : List (S38)))).bind fun bt164 => (if (!(bt164.1 == a0_0) || (!(bt164.2 == a0_1))) = true then (ropewaylaw04_ChangeTurns.j1 kj5 true a0_0 a0_1 a1_0 a1_1 a2_0 a2_1) else ((change_Within.f a0_0 a0_1 t148 t149).bind fun t166 => (if t166 = true then ((change_Right.f t148 t149).bind fun t167 => (ropewaylaw04_ChangeTurns.j1 kj5 (!t167) a0_0 a0_1 a1_0 a1_1 a2_0 a2_1)) else (ropewaylaw04_ChangeTurns.j1 kj5 true a0_0 a0_1 a1_0 a1_1 a2_0 a2_1))))))) = some r := H
            have A54 := Aside0.mk A540
            clear A540
            obtain ⟨y156, hy156⟩ : ∃ y_ : List (S38), y_ = (([(⟨a2_0, a2_1⟩ : S38), (⟨t154, t155⟩ : S38)] : List (S38))) := ⟨_, rfl⟩
            replace H : ((change_Join.f kj5 y156).bind fun bt159 => (if (!(bt159.1 == t148) || (!(bt159.2 == t149))) = true then (ropewaylaw04_ChangeTurns.j1 kj5 true a0_0 a0_1 a1_0 a1_1 a2_0 a2_1) else ((change_Join.f kj5 (([(⟨a0_0, a0_1⟩ : S38), (⟨a0_0, a0_1⟩ : S38)] : List (S38)))).bind fun bt164 => (if (!(bt164.1 == a0_0) || (!(bt164.2 == a0_1))) = true then (ropewaylaw04_ChangeTurns.j1 kj5 true a0_0 a0_1 a1_0 a1_1 a2_0 a2_1) else ((change_Within.f a0_0 a0_1 t148 t149).bind fun t166 => (if t166 = true then ((change_Right.f t148 t149).bind fun t167 => (ropewaylaw04_ChangeTurns.j1 kj5 (!t167) a0_0 a0_1 a1_0 a1_1 a2_0 a2_1)) else (ropewaylaw04_ChangeTurns.j1 kj5 true a0_0 a0_1 a1_0 a1_1 a2_0 a2_1))))))) = some r := by first | (rw [hy156]; with_reducible exact H) | (have H2_ := (Option.bind_some _ _).symm.trans H; rw [hy156]; with_reducible exact H2_) | (have H2_ := (Option.bind_some _ _).symm.trans H; with_reducible exact H2_) | with_reducible exact H | (rw [hy156]; exact H) | exact H
            have Ny156 := Aside0.mk hy156
            clear hy156
            replace H := Option.bind_eq_some_iff.mp H
            obtain ⟨⟨t159, t160⟩, A550, H⟩ := H
            replace H : (if (!(t159 == t148) || (!(t160 == t149))) = true then (ropewaylaw04_ChangeTurns.j1 kj5 true a0_0 a0_1 a1_0 a1_1 a2_0 a2_1) else ((change_Join.f kj5 (([(⟨a0_0, a0_1⟩ : S38), (⟨a0_0, a0_1⟩ : S38)] : List (S38)))).bind fun bt164 => (if (!(bt164.1 == a0_0) || (!(bt164.2 == a0_1))) = true then (ropewaylaw04_ChangeTurns.j1 kj5 true a0_0 a0_1 a1_0 a1_1 a2_0 a2_1) else ((change_Within.f a0_0 a0_1 t148 t149).bind fun t166 => (if t166 = true then ((change_Right.f t148 t149).bind fun t167 => (ropewaylaw04_ChangeTurns.j1 kj5 (!t167) a0_0 a0_1 a1_0 a1_1 a2_0 a2_1)) else (ropewaylaw04_ChangeTurns.j1 kj5 true a0_0 a0_1 a1_0 a1_1 a2_0 a2_1)))))) = some r := H
            have A55 := Aside0.mk A550
            clear A550
            by_cases c56 : (!(t159 == t148) || (!(t160 == t149))) = true
            · rw [if_pos c56] at H
              have c56b0 : (!(t159 == t148) || (!(t160 == t149))) = true := c56
              clear c56
              (first | rw [c56b0] | (simp only [i64_w, i32_w]; rw [c56b0]) | skip)
              have hr1 := hr1_.out
              subst hr1
              (cases kj5) <;> simp [ropewaylaw04_ChangeTurns.j1] at H
            · rw [if_neg c56] at H
              have c56b0 : (!(t159 == t148) || (!(t160 == t149))) = false := by simpa using c56
              clear c56
              (first | rw [c56b0] | (simp only [i64_w, i32_w]; rw [c56b0]) | skip)
              obtain ⟨y161, hy161⟩ : ∃ y_ : List (S38), y_ = (([(⟨a0_0, a0_1⟩ : S38), (⟨a0_0, a0_1⟩ : S38)] : List (S38))) := ⟨_, rfl⟩
              replace H : ((change_Join.f kj5 y161).bind fun bt164 => (if (!(bt164.1 == a0_0) || (!(bt164.2 == a0_1))) = true then (ropewaylaw04_ChangeTurns.j1 kj5 true a0_0 a0_1 a1_0 a1_1 a2_0 a2_1) else ((change_Within.f a0_0 a0_1 t148 t149).bind fun t166 => (if t166 = true then ((change_Right.f t148 t149).bind fun t167 => (ropewaylaw04_ChangeTurns.j1 kj5 (!t167) a0_0 a0_1 a1_0 a1_1 a2_0 a2_1)) else (ropewaylaw04_ChangeTurns.j1 kj5 true a0_0 a0_1 a1_0 a1_1 a2_0 a2_1))))) = some r := by first | (rw [hy161]; with_reducible exact H) | (have H2_ := (Option.bind_some _ _).symm.trans H; rw [hy161]; with_reducible exact H2_) | (have H2_ := (Option.bind_some _ _).symm.trans H; with_reducible exact H2_) | with_reducible exact H | (rw [hy161]; exact H) | exact H
              have Ny161 := Aside0.mk hy161
              clear hy161
              replace H := Option.bind_eq_some_iff.mp H
              obtain ⟨⟨t164, t165⟩, A570, H⟩ := H
              replace H : (if (!(t164 == a0_0) || (!(t165 == a0_1))) = true then (ropewaylaw04_ChangeTurns.j1 kj5 true a0_0 a0_1 a1_0 a1_1 a2_0 a2_1) else ((change_Within.f a0_0 a0_1 t148 t149).bind fun t166 => (if t166 = true then ((change_Right.f t148 t149).bind fun t167 => (ropewaylaw04_ChangeTurns.j1 kj5 (!t167) a0_0 a0_1 a1_0 a1_1 a2_0 a2_1)) else (ropewaylaw04_ChangeTurns.j1 kj5 true a0_0 a0_1 a1_0 a1_1 a2_0 a2_1)))) = some r := H
              have A57 := Aside0.mk A570
              clear A570
              by_cases c58 : (!(t164 == a0_0) || (!(t165 == a0_1))) = true
              · rw [if_pos c58] at H
                have c58b0 : (!(t164 == a0_0) || (!(t165 == a0_1))) = true := c58
                clear c58
                have hr1 := hr1_.out
                subst hr1
                (cases kj5) <;> simp [ropewaylaw04_ChangeTurns.j1] at H
              · rw [if_neg c58] at H
                have c58b0 : (!(t164 == a0_0) || (!(t165 == a0_1))) = false := by simpa using c58
                clear c58
                replace H := Option.bind_eq_some_iff.mp H
                obtain ⟨t166, A590, H⟩ := H
                replace H : (if t166 = true then ((change_Right.f t148 t149).bind fun t167 => (ropewaylaw04_ChangeTurns.j1 kj5 (!t167) a0_0 a0_1 a1_0 a1_1 a2_0 a2_1)) else (ropewaylaw04_ChangeTurns.j1 kj5 true a0_0 a0_1 a1_0 a1_1 a2_0 a2_1)) = some r := H
                have A59 := Aside0.mk A590
                clear A590
                by_cases c60 : t166 = true
                · subst c60
                  have H1 : ((change_Right.f t148 t149).bind fun t167 => (ropewaylaw04_ChangeTurns.j1 kj5 (!t167) a0_0 a0_1 a1_0 a1_1 a2_0 a2_1)) = some r := by rw [if_pos rfl] at H; exact H
                  clear H
                  have H := H1
                  clear H1
                  replace H := Option.bind_eq_some_iff.mp H
                  obtain ⟨t167, A610, H⟩ := H
                  replace H : (ropewaylaw04_ChangeTurns.j1 kj5 (!t167) a0_0 a0_1 a1_0 a1_1 a2_0 a2_1) = some r := H
                  have A61 := Aside0.mk A610
                  clear A610
                  have H' := Aside0.mk H
                  clear H
                  try go_wp2
                  have n0_ : Aside0 (Kd.R k38 38 ((w49.setCell ⟨gb150, 0, none⟩ (.int .i64 t148)).setCell ⟨gb150, 1, none⟩ (.int .i64 t149)) w.heap.size (fun k_ => k_ ≠ gb138 ∧ k_ ≠ gb139 ∧ k_ ≠ gb140 ∧ k_ ≠ gb150) (.slice Ao47 y145.length co47) y145) := ⟨by (with_reducible repeat (first | apply Kd.R_alloc | apply Kd.R_drewN | apply Kd.R_drew)); exact Kd.R_mono (Kd.R_far (p := ⟨gb150, 1, none⟩) (Kd.R_far (p := ⟨gb150, 0, none⟩) (Kd.R_mono HO147.out (fun k_ hk => (⟨hk, hk.2⟩ : _ ∧ k_ ≠ gb150))) (fun _ hk => hk.2) (.int .i64 t148)) (fun _ hk => hk.2) (.int .i64 t149)) (fun _ hk => ⟨hk.1.1.1.1.2, ⟨hk.1.1.1.2, ⟨hk.1.1.2, hk.1.2⟩⟩⟩)⟩
                  have n1_ : Aside0 (((w49.setCell ⟨gb150, 0, none⟩ (.int .i64 t148)).setCell ⟨gb150, 1, none⟩ (.int .i64 t149)).heap[gb138]? = some (.cells #[.int .i64 a0_0, .int .i64 a0_1] 38 (0, 0))) := ⟨by (with_reducible repeat (first | refine blk_drewN ?_ _ | refine blk_drew ?_ | refine blk_alloc ?_ _)); refine blk_far ?_ NB138_150.out _; (with_reducible repeat (first | refine blk_drewN ?_ _ | refine blk_drew ?_ | refine blk_alloc ?_ _)); refine blk_far ?_ NB138_150.out _; (with_reducible repeat (first | refine blk_drewN ?_ _ | refine blk_drew ?_ | refine blk_alloc ?_ _)); exact BK138.out⟩
                  have n2_ : Aside0 (((w49.setCell ⟨gb150, 0, none⟩ (.int .i64 t148)).setCell ⟨gb150, 1, none⟩ (.int .i64 t149)).heap[gb139]? = some (.cells #[.int .i64 a1_0, .int .i64 a1_1] 38 (0, 0))) := ⟨by (with_reducible repeat (first | refine blk_drewN ?_ _ | refine blk_drew ?_ | refine blk_alloc ?_ _)); refine blk_far ?_ NB139_150.out _; (with_reducible repeat (first | refine blk_drewN ?_ _ | refine blk_drew ?_ | refine blk_alloc ?_ _)); refine blk_far ?_ NB139_150.out _; (with_reducible repeat (first | refine blk_drewN ?_ _ | refine blk_drew ?_ | refine blk_alloc ?_ _)); exact BK139.out⟩
                  have n3_ : Aside0 (((w49.setCell ⟨gb150, 0, none⟩ (.int .i64 t148)).setCell ⟨gb150, 1, none⟩ (.int .i64 t149)).heap[gb140]? = some (.cells #[.int .i64 a2_0, .int .i64 a2_1] 38 (0, 0))) := ⟨by (with_reducible repeat (first | refine blk_drewN ?_ _ | refine blk_drew ?_ | refine blk_alloc ?_ _)); refine blk_far ?_ NB140_150.out _; (with_reducible repeat (first | refine blk_drewN ?_ _ | refine blk_drew ?_ | refine blk_alloc ?_ _)); refine blk_far ?_ NB140_150.out _; (with_reducible repeat (first | refine blk_drewN ?_ _ | refine blk_drew ?_ | refine blk_alloc ?_ _)); exact BK140.out⟩
                  have n4_ : Aside0 (((w49.setCell ⟨gb150, 0, none⟩ (.int .i64 t148)).setCell ⟨gb150, 1, none⟩ (.int .i64 t149)).heap[gb150]? = some (.cells #[.int .i64 t148, .int .i64 t149] 38 (0, 0))) := ⟨by (with_reducible repeat (first | refine blk_drewN ?_ _ | refine blk_drew ?_ | refine blk_alloc ?_ _)); refine blk_put (cs := #[.int .i64 t148, .int .i64 0]) ?_ 1 _ rfl; (with_reducible repeat (first | refine blk_drewN ?_ _ | refine blk_drew ?_ | refine blk_alloc ?_ _)); refine blk_put (cs := #[.int .i64 0, .int .i64 0]) ?_ 0 _ rfl; (with_reducible repeat (first | refine blk_drewN ?_ _ | refine blk_drew ?_ | refine blk_alloc ?_ _)); exact BK150.out⟩
                  have n5_ : Aside0 (Below w.heap.size w ((w49.setCell ⟨gb150, 0, none⟩ (.int .i64 t148)).setCell ⟨gb150, 1, none⟩ (.int .i64 t149))) := ⟨bel_⟩
                  (try clear HO147)
                  (try clear BK138)
                  (try clear BK139)
                  (try clear BK140)
                  (try clear BK150)
                  (try clear HB)
                  generalize ((w49.setCell ⟨gb150, 0, none⟩ (.int .i64 t148)).setCell ⟨gb150, 1, none⟩ (.int .i64 t149)) = w62 at n0_ n1_ n2_ n3_ n4_ n5_ ⊢
                  have HO147 := n0_
                  have BK138 := n1_
                  have BK139 := n2_
                  have BK140 := n3_
                  have BK150 := n4_
                  have HB := n5_
                  clear n0_ n1_ n2_ n3_ n4_ n5_
                  have n0_ := Aside0.mk (Kd.R_drew HO147.out)
                  have n1_ := Aside0.mk (blk_drew BK138.out)
                  have n2_ := Aside0.mk (blk_drew BK139.out)
                  have n3_ := Aside0.mk (blk_drew BK140.out)
                  have n4_ := Aside0.mk (blk_drew BK150.out)
                  have n5_ := Aside0.mk (below_drew1 HB.out)
                  clear HO147
                  clear BK138
                  clear BK139
                  clear BK140
                  clear BK150
                  clear HB
                  have HO147 := n0_
                  have BK138 := n1_
                  have BK139 := n2_
                  have BK140 := n3_
                  have BK150 := n4_
                  have HB := n5_
                  clear n0_ n1_ n2_ n3_ n4_ n5_
                  refine start_ (n := 28) (S := fun w' => w'.cell? ⟨gb140, 0, none⟩ = some (.int .i64 a2_0) ∧ w'.cell? ⟨gb140, 1, none⟩ = some (.int .i64 a2_1) ∧ w'.cell? ⟨gb139, 0, none⟩ = some (.int .i64 a1_0) ∧ w'.cell? ⟨gb139, 1, none⟩ = some (.int .i64 a1_1) ∧ w'.cell? ⟨gb138, 0, none⟩ = some (.int .i64 a0_0) ∧ w'.cell? ⟨gb138, 1, none⟩ = some (.int .i64 a0_1) ∧ w'.cell? ⟨gb150, 0, none⟩ = some (.int .i64 t148) ∧ w'.cell? ⟨gb150, 1, none⟩ = some (.int .i64 t149)) (ds := []) #[false, false, false, false, false, false, false, false, false, false, false, false, false, false, false, false, false, false, false, false, false, false, false, false, false, false, false, false] (by kernel_rfl) rfl rfl ⟨(blk_cell BK140.out 0).trans rfl, (blk_cell BK140.out 1).trans rfl, (blk_cell BK139.out 0).trans rfl, (blk_cell BK139.out 1).trans rfl, (blk_cell BK138.out 0).trans rfl, (blk_cell BK138.out 1).trans rfl, (blk_cell BK150.out 0).trans rfl, (blk_cell BK150.out 1).trans rfl⟩ (fun hHeld => ?_); refine with_tabW ropewaylaw04_ChangeTurns.tab6 ropewaylaw04_ChangeTurns.bits6 (fun HT_ HW_ => ?_)
                  generalize w62.drew = w63 at HO147 BK138 BK139 BK140 BK150 HB hHeld ⊢
                  refine take_ (i := 0) (N := some 29) (v := ?_) (a' := ?_) #[true, false, false, false, false, false, false, false, false, false, false, false, false, false, false, false, false, false, false, false, false, false, false, false, false, false, false, false] rfl rfl (take_ofW HT_.out HW_.out (by kernel_rfl)) (fun _ _ _ h => h) (Or.inl ⟨by rfl, ?_⟩) hHeld ?_ ?_
                  rotate_left
                  · rintro w' ⟨s0, s1, s2, s3, s4, s5, s6, s7⟩
                    go_simp
                    with_reducible rfl
                  rotate_left
                  · simp only [Act.put, List.setIfInBounds_toArray, List.set_cons_zero, List.set_cons_succ, i64_w, i32_w]
                    rfl
                  refine take_ (i := 1) (N := some 30) (v := ?_) (a' := ?_) #[true, true, false, false, false, false, false, false, false, false, false, false, false, false, false, false, false, false, false, false, false, false, false, false, false, false, false, false] rfl rfl (take_ofW HT_.out HW_.out (by kernel_rfl)) (fun _ _ _ h => h) (Or.inl ⟨by rfl, ?_⟩) hHeld ?_ ?_
                  rotate_left
                  · rintro w' ⟨s0, s1, s2, s3, s4, s5, s6, s7⟩
                    go_simp
                    with_reducible rfl
                  rotate_left
                  · simp only [Act.put, List.setIfInBounds_toArray, List.set_cons_zero, List.set_cons_succ, i64_w, i32_w]
                    rfl
                  refine take_ (i := 2) (N := some 31) (v := ?_) (a' := ?_) #[true, true, true, false, false, false, false, false, false, false, false, false, false, false, false, false, false, false, false, false, false, false, false, false, false, false, false, false] rfl rfl (take_ofW HT_.out HW_.out (by kernel_rfl)) (fun _ _ _ h => h) (Or.inl ⟨by rfl, ?_⟩) hHeld ?_ ?_
                  rotate_left
                  · rintro w' ⟨s0, s1, s2, s3, s4, s5, s6, s7⟩
                    go_simp
                    with_reducible rfl
                  rotate_left
                  · simp only [Act.put, List.setIfInBounds_toArray, List.set_cons_zero, List.set_cons_succ, i64_w, i32_w]
                    rfl
                  refine take_ (i := 7) (N := some 36) (v := ?_) (a' := ?_) #[true, true, true, false, false, false, false, true, false, false, false, false, false, false, false, false, false, false, false, false, false, false, false, false, false, false, false, false] rfl rfl (take_ofW HT_.out HW_.out (by kernel_rfl)) (fun _ _ _ h => h) (Or.inl ⟨by rfl, ?_⟩) hHeld ?_ ?_
                  rotate_left
                  · rintro w' ⟨s0, s1, s2, s3, s4, s5, s6, s7⟩
                    go_simp
                    with_reducible rfl
                  rotate_left
                  · simp only [Act.put, List.setIfInBounds_toArray, List.set_cons_zero, List.set_cons_succ, i64_w, i32_w]
                    rfl
                  refine one_ (i := 3) (N := some 32) #[true, true, true, true, false, false, false, true, false, false, false, false, false, false, false, false, false, false, false, false, false, false, false, false, false, false, false, false] rfl rfl (one_of HT_.out (by kernel_rfl)) (by decide) (fun K hK => ?_)
                  refine Kd.R_lit_step k38 _ 38 ?hg (N := 32) ?hd (xs := ([(⟨a1_0, a1_1⟩ : S38), (⟨a0_0, a0_1⟩ : S38)] : List (S38))) (inner := [.int .i64 a1_0, .int .i64 a1_1, .int .i64 a0_0, .int .i64 a0_1]) (ok := fun _ => True) (okp := fun _ => True) ?hr ?hp (fun _ hk => hk) trivial (Below.refl _ _) (Nat.le_refl _) (by simp) ?_; (case hd => rfl); (case hg => rfl); (case hr => first | (go_simp; done) | (go_simp; rfl)); (case hp => exact (Reps.c2 (show Kd.M k38 _ _ _ (⟨a1_0, a1_1⟩ : S38) [.int .i64 a1_0, .int .i64 a1_1] from (k38_mkM _ _ _ (⟨a1_0, a1_1⟩ : S38) )) (Reps.c2 (show Kd.M k38 _ _ _ (⟨a0_0, a0_1⟩ : S38) [.int .i64 a0_0, .int .i64 a0_1] from (k38_mkM _ _ _ (⟨a0_0, a0_1⟩ : S38) )) (Reps.none _ _))))
                  intro v152 w64 ho65 hb hg_ hnew_
                  clear hg_ hnew_
                  (first | rw [← Ny151.out] at ho65 | (simp only [Int.reduceToNat] at ho65; rw [← Ny151.out] at ho65))
                  have n0_ := Aside0.mk (Kd.R_elder' (by (with_reducible repeat (first | apply Kd.R_alloc | apply Kd.R_drewN | apply Kd.R_drew)); exact HO147.out) (Kd.R_base ho65) hb)
                  have n1_ := Aside0.mk (Kd.R_lower (Kd.R_newB (Kd.R_newB (Kd.R_newB (Kd.R_newB (Kd.R_new' ho65 (Kd.R_lt (by (with_reducible repeat (first | apply Kd.R_alloc | apply Kd.R_drewN | apply Kd.R_drew)); exact HO147.out))) (g := gb138) (o := .cells #[.int .i64 a0_0, .int .i64 a0_1] 38 (0, 0)) blk_) (g := gb139) (o := .cells #[.int .i64 a1_0, .int .i64 a1_1] 38 (0, 0)) blk_) (g := gb140) (o := .cells #[.int .i64 a2_0, .int .i64 a2_1] 38 (0, 0)) blk_) (g := gb150) (o := .cells #[.int .i64 t148, .int .i64 t149] 38 (0, 0)) blk_) (below_size bel_))
                  have n2_ := Aside0.mk (blk_below (g := gb138) (o := .cells #[.int .i64 a0_0, .int .i64 a0_1] 38 (0, 0)) blk_ hb)
                  have n3_ := Aside0.mk (blk_below (g := gb139) (o := .cells #[.int .i64 a1_0, .int .i64 a1_1] 38 (0, 0)) blk_ hb)
                  have n4_ := Aside0.mk (blk_below (g := gb140) (o := .cells #[.int .i64 a2_0, .int .i64 a2_1] 38 (0, 0)) blk_ hb)
                  have n5_ := Aside0.mk (blk_below (g := gb150) (o := .cells #[.int .i64 t148, .int .i64 t149] 38 (0, 0)) blk_ hb)
                  have n6_ := Aside0.mk (below_step bel_ hb)
                  clear HO147
                  clear BK138
                  clear BK139
                  clear BK140
                  clear BK150
                  clear HB
                  have HO147 := n0_
                  have HO153 := n1_
                  have BK138 := n2_
                  have BK139 := n3_
                  have BK140 := n4_
                  have BK150 := n5_
                  have HB := n6_
                  clear n0_ n1_ n2_ n3_ n4_ n5_ n6_
                  clear hb ho65
                  obtain ⟨Ao66, co66, eo66⟩ := Kd.R_slice HO153.out
                  (first | subst eo66 | (injection eo66 with f1_ f2_ f3_; have f4_ := f1_.symm; have f5_ := f3_.symm; clear f1_ f2_ f3_; subst f4_; subst f5_))
                  refine hK.out _ _ ⟨(blk_cell BK140.out 0).trans rfl, (blk_cell BK140.out 1).trans rfl, (blk_cell BK139.out 0).trans rfl, (blk_cell BK139.out 1).trans rfl, (blk_cell BK138.out 0).trans rfl, (blk_cell BK138.out 1).trans rfl, (blk_cell BK150.out 0).trans rfl, (blk_cell BK150.out 1).trans rfl⟩ (fun hHeld => ?_)
                  clear hK K
                  refine norm_ (a' := ?_) ?_ ?_
                  rotate_left
                  · show Act.put _ (some 32) _ = _
                    simp only [Act.put, List.setIfInBounds_toArray, List.set_cons_zero, List.set_cons_succ, i64_w, i32_w]
                    rfl
                  refine one_ (i := 4) (N := some 33) #[true, true, true, true, true, false, false, true, false, false, false, false, false, false, false, false, false, false, false, false, false, false, false, false, false, false, false, false] rfl rfl (one_of HT_.out (by kernel_rfl)) (by decide) (fun K hK => ?_)
                  refine goes_ Try.func26 (by kernel_rfl) rfl #[.slice Ao66 y151.length co66] (by rfl) rfl rfl (by (try simp only [List.map_toArray, List.map_cons, List.map_nil]); first | done | rfl | (simp only [List.length_drop, List.length_take]; rfl)) ?_
                  with_reducible refine (change_Join.calls kj5 _ _ y151 t154 t155 _ ?side1 ?side2 A54.out).mono ?_
                  (case side1 => repeat (first | exact (Kd.R_reads' HO153.out).2.2 | (with_reducible refine Kd.C_alloc ?_ _) | (with_reducible refine Kd.C_drewN ?_ _) | (with_reducible refine Kd.C_drew ?_)))
                  (case side2 => exact (Kd.R_reads' HO153.out).2.1)
                  rintro e w67 ⟨rfl, hb⟩
                  refine ⟨_, rfl, ?_⟩
                  have n0_ := Aside0.mk (Kd.R_below (by (with_reducible repeat (first | apply Kd.R_alloc | apply Kd.R_drewN | apply Kd.R_drew)); exact HO147.out) hb)
                  have n1_ := Aside0.mk (Kd.R_below (by (with_reducible repeat (first | apply Kd.R_alloc | apply Kd.R_drewN | apply Kd.R_drew)); exact HO153.out) hb)
                  have n2_ := Aside0.mk (blk_below (g := gb138) (o := .cells #[.int .i64 a0_0, .int .i64 a0_1] 38 (0, 0)) blk_ hb)
                  have n3_ := Aside0.mk (blk_below (g := gb139) (o := .cells #[.int .i64 a1_0, .int .i64 a1_1] 38 (0, 0)) blk_ hb)
                  have n4_ := Aside0.mk (blk_below (g := gb140) (o := .cells #[.int .i64 a2_0, .int .i64 a2_1] 38 (0, 0)) blk_ hb)
                  have n5_ := Aside0.mk (blk_below (g := gb150) (o := .cells #[.int .i64 t148, .int .i64 t149] 38 (0, 0)) blk_ hb)
                  have n6_ := Aside0.mk (below_step bel_ hb)
                  clear HO147
                  clear HO153
                  clear BK138
                  clear BK139
                  clear BK140
                  clear BK150
                  clear HB
                  have HO147 := n0_
                  have HO153 := n1_
                  have BK138 := n2_
                  have BK139 := n3_
                  have BK140 := n4_
                  have BK150 := n5_
                  have HB := n6_
                  clear n0_ n1_ n2_ n3_ n4_ n5_ n6_
                  (try clear hb)
                  (try clear hb2)
                  (try clear hk)
                  (try clear hi)
                  refine hK.out _ _ ⟨(blk_cell BK140.out 0).trans rfl, (blk_cell BK140.out 1).trans rfl, (blk_cell BK139.out 0).trans rfl, (blk_cell BK139.out 1).trans rfl, (blk_cell BK138.out 0).trans rfl, (blk_cell BK138.out 1).trans rfl, (blk_cell BK150.out 0).trans rfl, (blk_cell BK150.out 1).trans rfl⟩ (fun hHeld => ?_)
                  clear hK K
                  refine norm_ (a' := ?_) ?_ ?_
                  rotate_left
                  · show Act.put _ (some 33) _ = _
                    simp only [Act.put, List.setIfInBounds_toArray, List.set_cons_zero, List.set_cons_succ, i64_w, i32_w]
                    rfl
                  refine one_ (i := 5) (N := some 34) #[true, true, true, true, true, true, false, true, false, false, false, false, false, false, false, false, false, false, false, false, false, false, false, false, false, false, false, false] rfl rfl (one_of HT_.out (by kernel_rfl)) (by decide) (fun K hK => ?_)
                  refine Kd.R_lit_step k38 _ 38 ?hg (N := 34) ?hd (xs := ([(⟨a2_0, a2_1⟩ : S38), (⟨t154, t155⟩ : S38)] : List (S38))) (inner := [.int .i64 a2_0, .int .i64 a2_1, .int .i64 t154, .int .i64 t155]) (ok := fun _ => True) (okp := fun _ => True) ?hr ?hp (fun _ hk => hk) trivial (Below.refl _ _) (Nat.le_refl _) (by simp) ?_; (case hd => rfl); (case hg => rfl); (case hr => first | (go_simp; done) | (go_simp; rfl)); (case hp => exact (Reps.c2 (show Kd.M k38 _ _ _ (⟨a2_0, a2_1⟩ : S38) [.int .i64 a2_0, .int .i64 a2_1] from (k38_mkM _ _ _ (⟨a2_0, a2_1⟩ : S38) )) (Reps.c2 (show Kd.M k38 _ _ _ (⟨t154, t155⟩ : S38) [.int .i64 t154, .int .i64 t155] from (k38_mkM _ _ _ (⟨t154, t155⟩ : S38) )) (Reps.none _ _))))
                  intro v157 w68 ho69 hb hg_ hnew_
                  clear hg_ hnew_
                  (first | rw [← Ny156.out] at ho69 | (simp only [Int.reduceToNat] at ho69; rw [← Ny156.out] at ho69))
                  have n0_ := Aside0.mk (Kd.R_elder' (by (with_reducible repeat (first | apply Kd.R_alloc | apply Kd.R_drewN | apply Kd.R_drew)); exact HO147.out) (Kd.R_base ho69) hb)
                  have n1_ := Aside0.mk (Kd.R_elder' (by (with_reducible repeat (first | apply Kd.R_alloc | apply Kd.R_drewN | apply Kd.R_drew)); exact HO153.out) (Kd.R_base ho69) hb)
                  have n2_ := Aside0.mk (Kd.R_lower (Kd.R_newB (Kd.R_newB (Kd.R_newB (Kd.R_newB (Kd.R_new' (Kd.R_new' ho69 (Kd.R_lt (by (with_reducible repeat (first | apply Kd.R_alloc | apply Kd.R_drewN | apply Kd.R_drew)); exact HO147.out))) (Kd.R_lt (by (with_reducible repeat (first | apply Kd.R_alloc | apply Kd.R_drewN | apply Kd.R_drew)); exact HO153.out))) (g := gb138) (o := .cells #[.int .i64 a0_0, .int .i64 a0_1] 38 (0, 0)) blk_) (g := gb139) (o := .cells #[.int .i64 a1_0, .int .i64 a1_1] 38 (0, 0)) blk_) (g := gb140) (o := .cells #[.int .i64 a2_0, .int .i64 a2_1] 38 (0, 0)) blk_) (g := gb150) (o := .cells #[.int .i64 t148, .int .i64 t149] 38 (0, 0)) blk_) (below_size bel_))
                  have n3_ := Aside0.mk (blk_below (g := gb138) (o := .cells #[.int .i64 a0_0, .int .i64 a0_1] 38 (0, 0)) blk_ hb)
                  have n4_ := Aside0.mk (blk_below (g := gb139) (o := .cells #[.int .i64 a1_0, .int .i64 a1_1] 38 (0, 0)) blk_ hb)
                  have n5_ := Aside0.mk (blk_below (g := gb140) (o := .cells #[.int .i64 a2_0, .int .i64 a2_1] 38 (0, 0)) blk_ hb)
                  have n6_ := Aside0.mk (blk_below (g := gb150) (o := .cells #[.int .i64 t148, .int .i64 t149] 38 (0, 0)) blk_ hb)
                  have n7_ := Aside0.mk (below_step bel_ hb)
                  clear HO147
                  clear HO153
                  clear BK138
                  clear BK139
                  clear BK140
                  clear BK150
                  clear HB
                  have HO147 := n0_
                  have HO153 := n1_
                  have HO158 := n2_
                  have BK138 := n3_
                  have BK139 := n4_
                  have BK140 := n5_
                  have BK150 := n6_
                  have HB := n7_
                  clear n0_ n1_ n2_ n3_ n4_ n5_ n6_ n7_
                  clear hb ho69
                  obtain ⟨Ao70, co70, eo70⟩ := Kd.R_slice HO158.out
                  (first | subst eo70 | (injection eo70 with f1_ f2_ f3_; have f4_ := f1_.symm; have f5_ := f3_.symm; clear f1_ f2_ f3_; subst f4_; subst f5_))
                  refine hK.out _ _ ⟨(blk_cell BK140.out 0).trans rfl, (blk_cell BK140.out 1).trans rfl, (blk_cell BK139.out 0).trans rfl, (blk_cell BK139.out 1).trans rfl, (blk_cell BK138.out 0).trans rfl, (blk_cell BK138.out 1).trans rfl, (blk_cell BK150.out 0).trans rfl, (blk_cell BK150.out 1).trans rfl⟩ (fun hHeld => ?_)
                  clear hK K
                  refine norm_ (a' := ?_) ?_ ?_
                  rotate_left
                  · show Act.put _ (some 34) _ = _
                    simp only [Act.put, List.setIfInBounds_toArray, List.set_cons_zero, List.set_cons_succ, i64_w, i32_w]
                    rfl
                  refine one_ (i := 6) (N := some 35) #[true, true, true, true, true, true, true, true, false, false, false, false, false, false, false, false, false, false, false, false, false, false, false, false, false, false, false, false] rfl rfl (one_of HT_.out (by kernel_rfl)) (by decide) (fun K hK => ?_)
                  refine goes_ Try.func26 (by kernel_rfl) rfl #[.slice Ao70 y156.length co70] (by rfl) rfl rfl (by (try simp only [List.map_toArray, List.map_cons, List.map_nil]); first | done | rfl | (simp only [List.length_drop, List.length_take]; rfl)) ?_
                  with_reducible refine (change_Join.calls kj5 _ _ y156 t159 t160 _ ?side1 ?side2 A55.out).mono ?_
                  (case side1 => repeat (first | exact (Kd.R_reads' HO158.out).2.2 | (with_reducible refine Kd.C_alloc ?_ _) | (with_reducible refine Kd.C_drewN ?_ _) | (with_reducible refine Kd.C_drew ?_)))
                  (case side2 => exact (Kd.R_reads' HO158.out).2.1)
                  rintro e w71 ⟨rfl, hb⟩
                  refine ⟨_, rfl, ?_⟩
                  have n0_ := Aside0.mk (Kd.R_below (by (with_reducible repeat (first | apply Kd.R_alloc | apply Kd.R_drewN | apply Kd.R_drew)); exact HO147.out) hb)
                  have n1_ := Aside0.mk (Kd.R_below (by (with_reducible repeat (first | apply Kd.R_alloc | apply Kd.R_drewN | apply Kd.R_drew)); exact HO153.out) hb)
                  have n2_ := Aside0.mk (Kd.R_below (by (with_reducible repeat (first | apply Kd.R_alloc | apply Kd.R_drewN | apply Kd.R_drew)); exact HO158.out) hb)
                  have n3_ := Aside0.mk (blk_below (g := gb138) (o := .cells #[.int .i64 a0_0, .int .i64 a0_1] 38 (0, 0)) blk_ hb)
                  have n4_ := Aside0.mk (blk_below (g := gb139) (o := .cells #[.int .i64 a1_0, .int .i64 a1_1] 38 (0, 0)) blk_ hb)
                  have n5_ := Aside0.mk (blk_below (g := gb140) (o := .cells #[.int .i64 a2_0, .int .i64 a2_1] 38 (0, 0)) blk_ hb)
                  have n6_ := Aside0.mk (blk_below (g := gb150) (o := .cells #[.int .i64 t148, .int .i64 t149] 38 (0, 0)) blk_ hb)
                  have n7_ := Aside0.mk (below_step bel_ hb)
                  clear HO147
                  clear HO153
                  clear HO158
                  clear BK138
                  clear BK139
                  clear BK140
                  clear BK150
                  clear HB
                  have HO147 := n0_
                  have HO153 := n1_
                  have HO158 := n2_
                  have BK138 := n3_
                  have BK139 := n4_
                  have BK140 := n5_
                  have BK150 := n6_
                  have HB := n7_
                  clear n0_ n1_ n2_ n3_ n4_ n5_ n6_ n7_
                  (try clear hb)
                  (try clear hb2)
                  (try clear hk)
                  (try clear hi)
                  refine hK.out _ _ ⟨(blk_cell BK140.out 0).trans rfl, (blk_cell BK140.out 1).trans rfl, (blk_cell BK139.out 0).trans rfl, (blk_cell BK139.out 1).trans rfl, (blk_cell BK138.out 0).trans rfl, (blk_cell BK138.out 1).trans rfl, (blk_cell BK150.out 0).trans rfl, (blk_cell BK150.out 1).trans rfl⟩ (fun hHeld => ?_)
                  clear hK K
                  refine norm_ (a' := ?_) ?_ ?_
                  rotate_left
                  · show Act.put _ (some 35) _ = _
                    simp only [Act.put, List.setIfInBounds_toArray, List.set_cons_zero, List.set_cons_succ, i64_w, i32_w]
                    rfl
                  refine pure_ (i := 8) (N := some 37) (v := ?_) (a' := ?_) #[true, true, true, true, true, true, true, true, true, false, false, false, false, false, false, false, false, false, false, false, false, false, false, false, false, false, false, false] rfl rfl (any_of HT_.out (by kernel_rfl)) (fun _ _ _ h => h) (Or.inl ⟨by rfl, ?_⟩) ?_ ?_
                  rotate_left
                  · intro w'
                    go_simp
                    with_reducible rfl
                  rotate_left
                  · simp only [Act.put, List.setIfInBounds_toArray, List.set_cons_zero, List.set_cons_succ, i64_w, i32_w]
                    rfl
                  refine pure_ (i := 9) (N := some 38) (v := ?_) (a' := ?_) #[true, true, true, true, true, true, true, true, true, true, false, false, false, false, false, false, false, false, false, false, false, false, false, false, false, false, false, false] rfl rfl (any_of HT_.out (by kernel_rfl)) (fun _ _ _ h => h) (Or.inl ⟨by rfl, ?_⟩) ?_ ?_
                  rotate_left
                  · intro w'
                    go_simp
                    with_reducible rfl
                  rotate_left
                  · simp only [Act.put, List.setIfInBounds_toArray, List.set_cons_zero, List.set_cons_succ, i64_w, i32_w]
                    rfl
                  refine take_ (i := 10) (N := some 39) (v := ?_) (a' := ?_) #[true, true, true, true, true, true, true, true, true, true, true, false, false, false, false, false, false, false, false, false, false, false, false, false, false, false, false, false] rfl rfl (take_ofW HT_.out HW_.out (by kernel_rfl)) (fun _ _ _ h => h) (Or.inl ⟨by rfl, ?_⟩) hHeld ?_ ?_
                  rotate_left
                  · rintro w' ⟨s0, s1, s2, s3, s4, s5, s6, s7⟩
                    go_simp
                    with_reducible rfl
                  rotate_left
                  · simp only [Act.put, List.setIfInBounds_toArray, List.set_cons_zero, List.set_cons_succ, i64_w, i32_w]
                    rfl
                  refine take_ (i := 11) (N := some 40) (v := ?_) (a' := ?_) #[true, true, true, true, true, true, true, true, true, true, true, true, false, false, false, false, false, false, false, false, false, false, false, false, false, false, false, false] rfl rfl (take_ofW HT_.out HW_.out (by kernel_rfl)) (fun _ _ _ h => h) (Or.inl ⟨by rfl, ?_⟩) hHeld ?_ ?_
                  rotate_left
                  · rintro w' ⟨s0, s1, s2, s3, s4, s5, s6, s7⟩
                    go_simp
                    with_reducible rfl
                  rotate_left
                  · simp only [Act.put, List.setIfInBounds_toArray, List.set_cons_zero, List.set_cons_succ, i64_w, i32_w]
                    rfl
                  refine take_ (i := 14) (N := some 43) (v := ?_) (a' := ?_) #[true, true, true, true, true, true, true, true, true, true, true, true, false, false, true, false, false, false, false, false, false, false, false, false, false, false, false, false] rfl rfl (take_ofW HT_.out HW_.out (by kernel_rfl)) (fun _ _ _ h => h) (Or.inl ⟨by rfl, ?_⟩) hHeld ?_ ?_
                  rotate_left
                  · rintro w' ⟨s0, s1, s2, s3, s4, s5, s6, s7⟩
                    go_simp
                    with_reducible rfl
                  rotate_left
                  · simp only [Act.put, List.setIfInBounds_toArray, List.set_cons_zero, List.set_cons_succ, i64_w, i32_w]
                    rfl
                  refine one_ (i := 12) (N := some 41) #[true, true, true, true, true, true, true, true, true, true, true, true, true, false, true, false, false, false, false, false, false, false, false, false, false, false, false, false] rfl rfl (one_of HT_.out (by kernel_rfl)) (by decide) (fun K hK => ?_)
                  refine Kd.R_lit_step k38 _ 38 ?hg (N := 41) ?hd (xs := ([(⟨a0_0, a0_1⟩ : S38), (⟨a0_0, a0_1⟩ : S38)] : List (S38))) (inner := [.int .i64 a0_0, .int .i64 a0_1, .int .i64 a0_0, .int .i64 a0_1]) (ok := fun _ => True) (okp := fun _ => True) ?hr ?hp (fun _ hk => hk) trivial (Below.refl _ _) (Nat.le_refl _) (by simp) ?_; (case hd => rfl); (case hg => rfl); (case hr => first | (go_simp; done) | (go_simp; rfl)); (case hp => exact (Reps.c2 (show Kd.M k38 _ _ _ (⟨a0_0, a0_1⟩ : S38) [.int .i64 a0_0, .int .i64 a0_1] from (k38_mkM _ _ _ (⟨a0_0, a0_1⟩ : S38) )) (Reps.c2 (show Kd.M k38 _ _ _ (⟨a0_0, a0_1⟩ : S38) [.int .i64 a0_0, .int .i64 a0_1] from (k38_mkM _ _ _ (⟨a0_0, a0_1⟩ : S38) )) (Reps.none _ _))))
                  intro v162 w72 ho73 hb hg_ hnew_
                  clear hg_ hnew_
                  (first | rw [← Ny161.out] at ho73 | (simp only [Int.reduceToNat] at ho73; rw [← Ny161.out] at ho73))
                  have n0_ := Aside0.mk (Kd.R_elder' (by (with_reducible repeat (first | apply Kd.R_alloc | apply Kd.R_drewN | apply Kd.R_drew)); exact HO147.out) (Kd.R_base ho73) hb)
                  have n1_ := Aside0.mk (Kd.R_elder' (by (with_reducible repeat (first | apply Kd.R_alloc | apply Kd.R_drewN | apply Kd.R_drew)); exact HO153.out) (Kd.R_base ho73) hb)
                  have n2_ := Aside0.mk (Kd.R_elder' (by (with_reducible repeat (first | apply Kd.R_alloc | apply Kd.R_drewN | apply Kd.R_drew)); exact HO158.out) (Kd.R_base ho73) hb)
                  have n3_ := Aside0.mk (Kd.R_lower (Kd.R_newB (Kd.R_newB (Kd.R_newB (Kd.R_newB (Kd.R_new' (Kd.R_new' (Kd.R_new' ho73 (Kd.R_lt (by (with_reducible repeat (first | apply Kd.R_alloc | apply Kd.R_drewN | apply Kd.R_drew)); exact HO147.out))) (Kd.R_lt (by (with_reducible repeat (first | apply Kd.R_alloc | apply Kd.R_drewN | apply Kd.R_drew)); exact HO153.out))) (Kd.R_lt (by (with_reducible repeat (first | apply Kd.R_alloc | apply Kd.R_drewN | apply Kd.R_drew)); exact HO158.out))) (g := gb138) (o := .cells #[.int .i64 a0_0, .int .i64 a0_1] 38 (0, 0)) blk_) (g := gb139) (o := .cells #[.int .i64 a1_0, .int .i64 a1_1] 38 (0, 0)) blk_) (g := gb140) (o := .cells #[.int .i64 a2_0, .int .i64 a2_1] 38 (0, 0)) blk_) (g := gb150) (o := .cells #[.int .i64 t148, .int .i64 t149] 38 (0, 0)) blk_) (below_size bel_))
                  have n4_ := Aside0.mk (blk_below (g := gb138) (o := .cells #[.int .i64 a0_0, .int .i64 a0_1] 38 (0, 0)) blk_ hb)
                  have n5_ := Aside0.mk (blk_below (g := gb139) (o := .cells #[.int .i64 a1_0, .int .i64 a1_1] 38 (0, 0)) blk_ hb)
                  have n6_ := Aside0.mk (blk_below (g := gb140) (o := .cells #[.int .i64 a2_0, .int .i64 a2_1] 38 (0, 0)) blk_ hb)
                  have n7_ := Aside0.mk (blk_below (g := gb150) (o := .cells #[.int .i64 t148, .int .i64 t149] 38 (0, 0)) blk_ hb)
                  have n8_ := Aside0.mk (below_step bel_ hb)
                  clear HO147
                  clear HO153
                  clear HO158
                  clear BK138
                  clear BK139
                  clear BK140
                  clear BK150
                  clear HB
                  have HO147 := n0_
                  have HO153 := n1_
                  have HO158 := n2_
                  have HO163 := n3_
                  have BK138 := n4_
                  have BK139 := n5_
                  have BK140 := n6_
                  have BK150 := n7_
                  have HB := n8_
                  clear n0_ n1_ n2_ n3_ n4_ n5_ n6_ n7_ n8_
                  clear hb ho73
                  obtain ⟨Ao74, co74, eo74⟩ := Kd.R_slice HO163.out
                  (first | subst eo74 | (injection eo74 with f1_ f2_ f3_; have f4_ := f1_.symm; have f5_ := f3_.symm; clear f1_ f2_ f3_; subst f4_; subst f5_))
                  refine hK.out _ _ ⟨(blk_cell BK140.out 0).trans rfl, (blk_cell BK140.out 1).trans rfl, (blk_cell BK139.out 0).trans rfl, (blk_cell BK139.out 1).trans rfl, (blk_cell BK138.out 0).trans rfl, (blk_cell BK138.out 1).trans rfl, (blk_cell BK150.out 0).trans rfl, (blk_cell BK150.out 1).trans rfl⟩ (fun hHeld => ?_)
                  clear hK K
                  refine norm_ (a' := ?_) ?_ ?_
                  rotate_left
                  · show Act.put _ (some 41) _ = _
                    simp only [Act.put, List.setIfInBounds_toArray, List.set_cons_zero, List.set_cons_succ, i64_w, i32_w]
                    rfl
                  refine one_ (i := 13) (N := some 42) #[true, true, true, true, true, true, true, true, true, true, true, true, true, true, true, false, false, false, false, false, false, false, false, false, false, false, false, false] rfl rfl (one_of HT_.out (by kernel_rfl)) (by decide) (fun K hK => ?_)
                  refine goes_ Try.func26 (by kernel_rfl) rfl #[.slice Ao74 y161.length co74] (by rfl) rfl rfl (by (try simp only [List.map_toArray, List.map_cons, List.map_nil]); first | done | rfl | (simp only [List.length_drop, List.length_take]; rfl)) ?_
                  with_reducible refine (change_Join.calls kj5 _ _ y161 t164 t165 _ ?side1 ?side2 A57.out).mono ?_
                  (case side1 => repeat (first | exact (Kd.R_reads' HO163.out).2.2 | (with_reducible refine Kd.C_alloc ?_ _) | (with_reducible refine Kd.C_drewN ?_ _) | (with_reducible refine Kd.C_drew ?_)))
                  (case side2 => exact (Kd.R_reads' HO163.out).2.1)
                  rintro e w75 ⟨rfl, hb⟩
                  refine ⟨_, rfl, ?_⟩
                  have n0_ := Aside0.mk (Kd.R_below (by (with_reducible repeat (first | apply Kd.R_alloc | apply Kd.R_drewN | apply Kd.R_drew)); exact HO147.out) hb)
                  have n1_ := Aside0.mk (Kd.R_below (by (with_reducible repeat (first | apply Kd.R_alloc | apply Kd.R_drewN | apply Kd.R_drew)); exact HO153.out) hb)
                  have n2_ := Aside0.mk (Kd.R_below (by (with_reducible repeat (first | apply Kd.R_alloc | apply Kd.R_drewN | apply Kd.R_drew)); exact HO158.out) hb)
                  have n3_ := Aside0.mk (Kd.R_below (by (with_reducible repeat (first | apply Kd.R_alloc | apply Kd.R_drewN | apply Kd.R_drew)); exact HO163.out) hb)
                  have n4_ := Aside0.mk (blk_below (g := gb138) (o := .cells #[.int .i64 a0_0, .int .i64 a0_1] 38 (0, 0)) blk_ hb)
                  have n5_ := Aside0.mk (blk_below (g := gb139) (o := .cells #[.int .i64 a1_0, .int .i64 a1_1] 38 (0, 0)) blk_ hb)
                  have n6_ := Aside0.mk (blk_below (g := gb140) (o := .cells #[.int .i64 a2_0, .int .i64 a2_1] 38 (0, 0)) blk_ hb)
                  have n7_ := Aside0.mk (blk_below (g := gb150) (o := .cells #[.int .i64 t148, .int .i64 t149] 38 (0, 0)) blk_ hb)
                  have n8_ := Aside0.mk (below_step bel_ hb)
                  clear HO147
                  clear HO153
                  clear HO158
                  clear HO163
                  clear BK138
                  clear BK139
                  clear BK140
                  clear BK150
                  clear HB
                  have HO147 := n0_
                  have HO153 := n1_
                  have HO158 := n2_
                  have HO163 := n3_
                  have BK138 := n4_
                  have BK139 := n5_
                  have BK140 := n6_
                  have BK150 := n7_
                  have HB := n8_
                  clear n0_ n1_ n2_ n3_ n4_ n5_ n6_ n7_ n8_
                  (try clear hb)
                  (try clear hb2)
                  (try clear hk)
                  (try clear hi)
                  refine hK.out _ _ ⟨(blk_cell BK140.out 0).trans rfl, (blk_cell BK140.out 1).trans rfl, (blk_cell BK139.out 0).trans rfl, (blk_cell BK139.out 1).trans rfl, (blk_cell BK138.out 0).trans rfl, (blk_cell BK138.out 1).trans rfl, (blk_cell BK150.out 0).trans rfl, (blk_cell BK150.out 1).trans rfl⟩ (fun hHeld => ?_)
                  clear hK K
                  refine norm_ (a' := ?_) ?_ ?_
                  rotate_left
                  · show Act.put _ (some 42) _ = _
                    simp only [Act.put, List.setIfInBounds_toArray, List.set_cons_zero, List.set_cons_succ, i64_w, i32_w]
                    rfl
                  refine pure_ (i := 15) (N := some 44) (v := ?_) (a' := ?_) #[true, true, true, true, true, true, true, true, true, true, true, true, true, true, true, true, false, false, false, false, false, false, false, false, false, false, false, false] rfl rfl (any_of HT_.out (by kernel_rfl)) (fun _ _ _ h => h) (Or.inl ⟨by rfl, ?_⟩) ?_ ?_
                  rotate_left
                  · intro w'
                    go_simp
                    with_reducible rfl
                  rotate_left
                  · simp only [Act.put, List.setIfInBounds_toArray, List.set_cons_zero, List.set_cons_succ, i64_w, i32_w]
                    rfl
                  refine pure_ (i := 16) (N := some 45) (v := ?_) (a' := ?_) #[true, true, true, true, true, true, true, true, true, true, true, true, true, true, true, true, true, false, false, false, false, false, false, false, false, false, false, false] rfl rfl (any_of HT_.out (by kernel_rfl)) (fun _ _ _ h => h) (Or.inl ⟨by rfl, ?_⟩) ?_ ?_
                  rotate_left
                  · intro w'
                    go_simp
                    with_reducible rfl
                  rotate_left
                  · simp only [Act.put, List.setIfInBounds_toArray, List.set_cons_zero, List.set_cons_succ, i64_w, i32_w]
                    rfl
                  refine pure_ (i := 17) (N := some 46) (v := ?_) (a' := ?_) #[true, true, true, true, true, true, true, true, true, true, true, true, true, true, true, true, true, true, false, false, false, false, false, false, false, false, false, false] rfl rfl (any_of HT_.out (by kernel_rfl)) (fun _ _ _ h => h) (Or.inl ⟨by rfl, ?_⟩) ?_ ?_
                  rotate_left
                  · intro w'
                    go_simp
                    with_reducible rfl
                  rotate_left
                  · simp only [Act.put, List.setIfInBounds_toArray, List.set_cons_zero, List.set_cons_succ, i64_w, i32_w]
                    rfl
                  refine take_ (i := 18) (N := some 47) (v := ?_) (a' := ?_) #[true, true, true, true, true, true, true, true, true, true, true, true, true, true, true, true, true, true, true, false, false, false, false, false, false, false, false, false] rfl rfl (take_ofW HT_.out HW_.out (by kernel_rfl)) (fun _ _ _ h => h) (Or.inl ⟨by rfl, ?_⟩) hHeld ?_ ?_
                  rotate_left
                  · rintro w' ⟨s0, s1, s2, s3, s4, s5, s6, s7⟩
                    go_simp
                    with_reducible rfl
                  rotate_left
                  · simp only [Act.put, List.setIfInBounds_toArray, List.set_cons_zero, List.set_cons_succ, i64_w, i32_w]
                    rfl
                  refine take_ (i := 19) (N := some 48) (v := ?_) (a' := ?_) #[true, true, true, true, true, true, true, true, true, true, true, true, true, true, true, true, true, true, true, true, false, false, false, false, false, false, false, false] rfl rfl (take_ofW HT_.out HW_.out (by kernel_rfl)) (fun _ _ _ h => h) (Or.inl ⟨by rfl, ?_⟩) hHeld ?_ ?_
                  rotate_left
                  · rintro w' ⟨s0, s1, s2, s3, s4, s5, s6, s7⟩
                    go_simp
                    with_reducible rfl
                  rotate_left
                  · simp only [Act.put, List.setIfInBounds_toArray, List.set_cons_zero, List.set_cons_succ, i64_w, i32_w]
                    rfl
                  refine one_ (i := 20) (N := some 49) #[true, true, true, true, true, true, true, true, true, true, true, true, true, true, true, true, true, true, true, true, true, false, false, false, false, false, false, false] rfl rfl (one_of HT_.out (by kernel_rfl)) (by decide) (fun K hK => ?_)
                  refine goes_ Try.func29 (by kernel_rfl) rfl #[.agg #[.int .i64 a0_0, .int .i64 a0_1], .agg #[.int .i64 t148, .int .i64 t149]] (by rfl) rfl rfl (by (try simp only [List.map_toArray, List.map_cons, List.map_nil]); first | done | rfl | (simp only [List.length_drop, List.length_take]; rfl)) ?_
                  with_reducible refine (change_Within.calls a0_0 a0_1 t148 t149 true _ A59.out).mono ?_
                  rintro e w76 ⟨rfl, hb⟩
                  refine ⟨_, rfl, ?_⟩
                  have n0_ := Aside0.mk (Kd.R_below (by (with_reducible repeat (first | apply Kd.R_alloc | apply Kd.R_drewN | apply Kd.R_drew)); exact HO147.out) hb)
                  have n1_ := Aside0.mk (Kd.R_below (by (with_reducible repeat (first | apply Kd.R_alloc | apply Kd.R_drewN | apply Kd.R_drew)); exact HO153.out) hb)
                  have n2_ := Aside0.mk (Kd.R_below (by (with_reducible repeat (first | apply Kd.R_alloc | apply Kd.R_drewN | apply Kd.R_drew)); exact HO158.out) hb)
                  have n3_ := Aside0.mk (Kd.R_below (by (with_reducible repeat (first | apply Kd.R_alloc | apply Kd.R_drewN | apply Kd.R_drew)); exact HO163.out) hb)
                  have n4_ := Aside0.mk (blk_below (g := gb138) (o := .cells #[.int .i64 a0_0, .int .i64 a0_1] 38 (0, 0)) blk_ hb)
                  have n5_ := Aside0.mk (blk_below (g := gb139) (o := .cells #[.int .i64 a1_0, .int .i64 a1_1] 38 (0, 0)) blk_ hb)
                  have n6_ := Aside0.mk (blk_below (g := gb140) (o := .cells #[.int .i64 a2_0, .int .i64 a2_1] 38 (0, 0)) blk_ hb)
                  have n7_ := Aside0.mk (blk_below (g := gb150) (o := .cells #[.int .i64 t148, .int .i64 t149] 38 (0, 0)) blk_ hb)
                  have n8_ := Aside0.mk (below_step bel_ hb)
                  clear HO147
                  clear HO153
                  clear HO158
                  clear HO163
                  clear BK138
                  clear BK139
                  clear BK140
                  clear BK150
                  clear HB
                  have HO147 := n0_
                  have HO153 := n1_
                  have HO158 := n2_
                  have HO163 := n3_
                  have BK138 := n4_
                  have BK139 := n5_
                  have BK140 := n6_
                  have BK150 := n7_
                  have HB := n8_
                  clear n0_ n1_ n2_ n3_ n4_ n5_ n6_ n7_ n8_
                  (try clear hb)
                  (try clear hb2)
                  (try clear hk)
                  (try clear hi)
                  refine hK.out _ _ ⟨(blk_cell BK140.out 0).trans rfl, (blk_cell BK140.out 1).trans rfl, (blk_cell BK139.out 0).trans rfl, (blk_cell BK139.out 1).trans rfl, (blk_cell BK138.out 0).trans rfl, (blk_cell BK138.out 1).trans rfl, (blk_cell BK150.out 0).trans rfl, (blk_cell BK150.out 1).trans rfl⟩ (fun hHeld => ?_)
                  clear hK K
                  refine norm_ (a' := ?_) ?_ ?_
                  rotate_left
                  · show Act.put _ (some 49) _ = _
                    simp only [Act.put, List.setIfInBounds_toArray, List.set_cons_zero, List.set_cons_succ, i64_w, i32_w]
                    rfl
                  refine pure_ (i := 21) (N := some 50) (v := ?_) (a' := ?_) #[true, true, true, true, true, true, true, true, true, true, true, true, true, true, true, true, true, true, true, true, true, true, false, false, false, false, false, false] rfl rfl (any_of HT_.out (by kernel_rfl)) (fun _ _ _ h => h) (Or.inl ⟨by rfl, ?_⟩) ?_ ?_
                  rotate_left
                  · intro w'
                    go_simp
                    with_reducible rfl
                  rotate_left
                  · simp only [Act.put, List.setIfInBounds_toArray, List.set_cons_zero, List.set_cons_succ, i64_w, i32_w]
                    rfl
                  refine pure_ (i := 22) (N := some 51) (v := ?_) (a' := ?_) #[true, true, true, true, true, true, true, true, true, true, true, true, true, true, true, true, true, true, true, true, true, true, true, false, false, false, false, false] rfl rfl (any_of HT_.out (by kernel_rfl)) (fun _ _ _ h => h) (Or.inl ⟨by rfl, ?_⟩) ?_ ?_
                  rotate_left
                  · intro w'
                    go_simp
                    with_reducible rfl
                  rotate_left
                  · simp only [Act.put, List.setIfInBounds_toArray, List.set_cons_zero, List.set_cons_succ, i64_w, i32_w]
                    rfl
                  refine pure_ (i := 23) (N := some 52) (v := ?_) (a' := ?_) #[true, true, true, true, true, true, true, true, true, true, true, true, true, true, true, true, true, true, true, true, true, true, true, true, false, false, false, false] rfl rfl (any_of HT_.out (by kernel_rfl)) (fun _ _ _ h => h) (Or.inl ⟨by rfl, ?_⟩) ?_ ?_
                  rotate_left
                  · intro w'
                    go_simp
                    with_reducible rfl
                  rotate_left
                  · simp only [Act.put, List.setIfInBounds_toArray, List.set_cons_zero, List.set_cons_succ, i64_w, i32_w]
                    rfl
                  refine take_ (i := 24) (N := some 53) (v := ?_) (a' := ?_) #[true, true, true, true, true, true, true, true, true, true, true, true, true, true, true, true, true, true, true, true, true, true, true, true, true, false, false, false] rfl rfl (take_ofW HT_.out HW_.out (by kernel_rfl)) (fun _ _ _ h => h) (Or.inl ⟨by rfl, ?_⟩) hHeld ?_ ?_
                  rotate_left
                  · rintro w' ⟨s0, s1, s2, s3, s4, s5, s6, s7⟩
                    go_simp
                    with_reducible rfl
                  rotate_left
                  · simp only [Act.put, List.setIfInBounds_toArray, List.set_cons_zero, List.set_cons_succ, i64_w, i32_w]
                    rfl
                  refine one_ (i := 25) (N := some 54) #[true, true, true, true, true, true, true, true, true, true, true, true, true, true, true, true, true, true, true, true, true, true, true, true, true, true, false, false] rfl rfl (one_of HT_.out (by kernel_rfl)) (by decide) (fun K hK => ?_)
                  refine goes_ Try.func27 (by kernel_rfl) rfl #[.agg #[.int .i64 t148, .int .i64 t149]] (by rfl) rfl rfl (by (try simp only [List.map_toArray, List.map_cons, List.map_nil]); first | done | rfl | (simp only [List.length_drop, List.length_take]; rfl)) ?_
                  with_reducible refine (change_Right.calls t148 t149 t167 _ A61.out).mono ?_
                  rintro e w77 ⟨rfl, hb⟩
                  refine ⟨_, rfl, ?_⟩
                  have n0_ := Aside0.mk (Kd.R_below (by (with_reducible repeat (first | apply Kd.R_alloc | apply Kd.R_drewN | apply Kd.R_drew)); exact HO147.out) hb)
                  have n1_ := Aside0.mk (Kd.R_below (by (with_reducible repeat (first | apply Kd.R_alloc | apply Kd.R_drewN | apply Kd.R_drew)); exact HO153.out) hb)
                  have n2_ := Aside0.mk (Kd.R_below (by (with_reducible repeat (first | apply Kd.R_alloc | apply Kd.R_drewN | apply Kd.R_drew)); exact HO158.out) hb)
                  have n3_ := Aside0.mk (Kd.R_below (by (with_reducible repeat (first | apply Kd.R_alloc | apply Kd.R_drewN | apply Kd.R_drew)); exact HO163.out) hb)
                  have n4_ := Aside0.mk (blk_below (g := gb138) (o := .cells #[.int .i64 a0_0, .int .i64 a0_1] 38 (0, 0)) blk_ hb)
                  have n5_ := Aside0.mk (blk_below (g := gb139) (o := .cells #[.int .i64 a1_0, .int .i64 a1_1] 38 (0, 0)) blk_ hb)
                  have n6_ := Aside0.mk (blk_below (g := gb140) (o := .cells #[.int .i64 a2_0, .int .i64 a2_1] 38 (0, 0)) blk_ hb)
                  have n7_ := Aside0.mk (blk_below (g := gb150) (o := .cells #[.int .i64 t148, .int .i64 t149] 38 (0, 0)) blk_ hb)
                  have n8_ := Aside0.mk (below_step bel_ hb)
                  clear HO147
                  clear HO153
                  clear HO158
                  clear HO163
                  clear BK138
                  clear BK139
                  clear BK140
                  clear BK150
                  clear HB
                  have HO147 := n0_
                  have HO153 := n1_
                  have HO158 := n2_
                  have HO163 := n3_
                  have BK138 := n4_
                  have BK139 := n5_
                  have BK140 := n6_
                  have BK150 := n7_
                  have HB := n8_
                  clear n0_ n1_ n2_ n3_ n4_ n5_ n6_ n7_ n8_
                  (try clear hb)
                  (try clear hb2)
                  (try clear hk)
                  (try clear hi)
                  refine hK.out _ _ ⟨(blk_cell BK140.out 0).trans rfl, (blk_cell BK140.out 1).trans rfl, (blk_cell BK139.out 0).trans rfl, (blk_cell BK139.out 1).trans rfl, (blk_cell BK138.out 0).trans rfl, (blk_cell BK138.out 1).trans rfl, (blk_cell BK150.out 0).trans rfl, (blk_cell BK150.out 1).trans rfl⟩ (fun hHeld => ?_)
                  clear hK K
                  refine norm_ (a' := ?_) ?_ ?_
                  rotate_left
                  · show Act.put _ (some 54) _ = _
                    simp only [Act.put, List.setIfInBounds_toArray, List.set_cons_zero, List.set_cons_succ, i64_w, i32_w]
                    rfl
                  refine pure_ (i := 26) (N := some 55) (v := ?_) (a' := ?_) #[true, true, true, true, true, true, true, true, true, true, true, true, true, true, true, true, true, true, true, true, true, true, true, true, true, true, true, false] rfl rfl (any_of HT_.out (by kernel_rfl)) (fun _ _ _ h => h) (Or.inl ⟨by rfl, ?_⟩) ?_ ?_
                  rotate_left
                  · intro w'
                    go_simp
                    with_reducible rfl
                  rotate_left
                  · simp only [Act.put, List.setIfInBounds_toArray, List.set_cons_zero, List.set_cons_succ, i64_w, i32_w]
                    rfl
                  refine pure_ (i := 27) (N := some 56) (v := ?_) (a' := ?_) #[true, true, true, true, true, true, true, true, true, true, true, true, true, true, true, true, true, true, true, true, true, true, true, true, true, true, true, true] rfl rfl (any_of HT_.out (by kernel_rfl)) (fun _ _ _ h => h) (Or.inl ⟨by rfl, ?_⟩) ?_ ?_
                  rotate_left
                  · intro w'
                    go_simp
                    with_reducible rfl
                  rotate_left
                  · simp only [Act.put, List.setIfInBounds_toArray, List.set_cons_zero, List.set_cons_succ, i64_w, i32_w]
                    rfl
                  refine done_ (done_of HT_.out (by kernel_rfl)) ?_
                  try go_wp2
                  go_meet
                  case rel => exact ⟨_, (!t167), (by first | rfl | (simp; done) | (simp [*]; done) | (simp; grind)), H', ⟨by have := HJ5.out; first | omega | exact Nat.le_refl _⟩, ⟨by (with_reducible repeat (first | refine blk_drewN ?_ _ | refine blk_drew ?_ | refine blk_alloc ?_ _)); exact BK138.out⟩, ⟨by (with_reducible repeat (first | refine blk_drewN ?_ _ | refine blk_drew ?_ | refine blk_alloc ?_ _)); exact BK139.out⟩, ⟨by (with_reducible repeat (first | refine blk_drewN ?_ _ | refine blk_drew ?_ | refine blk_alloc ?_ _)); exact BK140.out⟩, ⟨by (with_reducible repeat (first | refine blk_drewN ?_ _ | refine blk_drew ?_ | refine blk_alloc ?_ _)); exact BK150.out⟩, ⟨bel_⟩⟩
                · replace c60 := Bool.eq_false_iff.mpr c60
                  subst c60
                  have H1 : (ropewaylaw04_ChangeTurns.j1 kj5 true a0_0 a0_1 a1_0 a1_1 a2_0 a2_1) = some r := by rw [if_neg (show ¬ (false = true) by decide)] at H; exact H
                  clear H
                  have H := H1
                  clear H1
                  have hr1 := hr1_.out
                  subst hr1
                  (cases kj5) <;> simp [ropewaylaw04_ChangeTurns.j1] at H
          case rest =>
            clear HC38
            try clear c2
            try clear p2
            try clear c5
            try clear c6
            try clear c26
            try clear c27
            try clear c29
            try clear c56
            try clear c56b0
            try clear c58
            try clear c58b0
            try clear c60
            obtain ⟨kq, x56_37, rfl, HA, HJ37, BK138, BK139, BK140, BK150, HB⟩ := hcut
            cases kq with
            | zero => exact absurd HA.out (by simp [ropewaylaw04_ChangeTurns.j1])
            | succ kj37 =>
              have H := HA.out
              clear HA
              simp only [ropewaylaw04_ChangeTurns.j1] at H
              by_cases c78 : x56_37 = true
              · subst c78
                have H1 : (some false) = some r := by rw [if_pos rfl] at H; exact H
                clear H
                have H := H1
                clear H1
                exact absurd (Option.some.inj H) (by rw [hr1_.out]; decide)
              · replace c78 := Bool.eq_false_iff.mpr c78
                subst c78
                have H1 : ((change_Within.f a0_0 a0_1 a2_0 a2_1).bind fun t168 => (if t168 = true then ((change_Within.f a1_0 a1_1 a2_0 a2_1).bind fun t169 => ((change_Join.f kj37 (([(⟨a0_0, a0_1⟩ : S38), (⟨a1_0, a1_1⟩ : S38)] : List (S38)))).bind fun bt173 => ((change_Within.f bt173.1 bt173.2 a2_0 a2_1).bind fun t175 => (ropewaylaw04_ChangeTurns.j2 kj37 (t169 != t175) a0_0 a0_1 a1_0 a1_1)))) else (ropewaylaw04_ChangeTurns.j2 kj37 false a0_0 a0_1 a1_0 a1_1))) = some r := by rw [if_neg (show ¬ (false = true) by decide)] at H; exact H
                clear H
                have H := H1
                clear H1
                have HC79 := Aside0.mk H
                clear H
                go_upto_region 8 with (fail)
                go_cut [71] (fun v71 wc => ∃ (kq : Nat) (x71_78 : Bool), v71 = .bool x71_78 ∧ Aside0 (ropewaylaw04_ChangeTurns.j2 kq x71_78 a0_0 a0_1 a1_0 a1_1 = some r) ∧ Aside0 (kq ≤ kj37) ∧ Aside0 (wc.heap[gb138]? = some (.cells #[.int .i64 a0_0, .int .i64 a0_1] 38 (0, 0))) ∧ Aside0 (wc.heap[gb139]? = some (.cells #[.int .i64 a1_0, .int .i64 a1_1] 38 (0, 0))) ∧ Aside0 (wc.heap[gb140]? = some (.cells #[.int .i64 a2_0, .int .i64 a2_1] 38 (0, 0))) ∧ Aside0 (wc.heap[gb150]? = some (.cells #[.int .i64 t148, .int .i64 t149] 38 (0, 0))) ∧ Aside0 (Below w.heap.size w wc))
                case first =>
                  have H := HC79.out
                  clear HC79
                  replace H := Option.bind_eq_some_iff.mp H
                  obtain ⟨t168, A800, H⟩ := H
                  replace H : (if t168 = true then ((change_Within.f a1_0 a1_1 a2_0 a2_1).bind fun t169 => ((change_Join.f kj37 (([(⟨a0_0, a0_1⟩ : S38), (⟨a1_0, a1_1⟩ : S38)] : List (S38)))).bind fun bt173 => ((change_Within.f bt173.1 bt173.2 a2_0 a2_1).bind fun t175 => (ropewaylaw04_ChangeTurns.j2 kj37 (t169 != t175) a0_0 a0_1 a1_0 a1_1)))) else (ropewaylaw04_ChangeTurns.j2 kj37 false a0_0 a0_1 a1_0 a1_1)) = some r := H
                  have A80 := Aside0.mk A800
                  clear A800
                  by_cases c81 : t168 = true
                  · subst c81
                    have H1 : ((change_Within.f a1_0 a1_1 a2_0 a2_1).bind fun t169 => ((change_Join.f kj37 (([(⟨a0_0, a0_1⟩ : S38), (⟨a1_0, a1_1⟩ : S38)] : List (S38)))).bind fun bt173 => ((change_Within.f bt173.1 bt173.2 a2_0 a2_1).bind fun t175 => (ropewaylaw04_ChangeTurns.j2 kj37 (t169 != t175) a0_0 a0_1 a1_0 a1_1)))) = some r := by rw [if_pos rfl] at H; exact H
                    clear H
                    have H := H1
                    clear H1
                    replace H := Option.bind_eq_some_iff.mp H
                    obtain ⟨t169, A820, H⟩ := H
                    replace H : ((change_Join.f kj37 (([(⟨a0_0, a0_1⟩ : S38), (⟨a1_0, a1_1⟩ : S38)] : List (S38)))).bind fun bt173 => ((change_Within.f bt173.1 bt173.2 a2_0 a2_1).bind fun t175 => (ropewaylaw04_ChangeTurns.j2 kj37 (t169 != t175) a0_0 a0_1 a1_0 a1_1))) = some r := H
                    have A82 := Aside0.mk A820
                    clear A820
                    obtain ⟨y170, hy170⟩ : ∃ y_ : List (S38), y_ = (([(⟨a0_0, a0_1⟩ : S38), (⟨a1_0, a1_1⟩ : S38)] : List (S38))) := ⟨_, rfl⟩
                    replace H : ((change_Join.f kj37 y170).bind fun bt173 => ((change_Within.f bt173.1 bt173.2 a2_0 a2_1).bind fun t175 => (ropewaylaw04_ChangeTurns.j2 kj37 (t169 != t175) a0_0 a0_1 a1_0 a1_1))) = some r := by first | (rw [hy170]; with_reducible exact H) | (have H2_ := (Option.bind_some _ _).symm.trans H; rw [hy170]; with_reducible exact H2_) | (have H2_ := (Option.bind_some _ _).symm.trans H; with_reducible exact H2_) | with_reducible exact H | (rw [hy170]; exact H) | exact H
                    have Ny170 := Aside0.mk hy170
                    clear hy170
                    replace H := Option.bind_eq_some_iff.mp H
                    obtain ⟨⟨t173, t174⟩, A830, H⟩ := H
                    replace H : ((change_Within.f t173 t174 a2_0 a2_1).bind fun t175 => (ropewaylaw04_ChangeTurns.j2 kj37 (t169 != t175) a0_0 a0_1 a1_0 a1_1)) = some r := H
                    have A83 := Aside0.mk A830
                    clear A830
                    replace H := Option.bind_eq_some_iff.mp H
                    obtain ⟨t175, A840, H⟩ := H
                    replace H : (ropewaylaw04_ChangeTurns.j2 kj37 (t169 != t175) a0_0 a0_1 a1_0 a1_1) = some r := H
                    have A84 := Aside0.mk A840
                    clear A840
                    have H' := Aside0.mk H
                    clear H
                    try go_wp2
                    have n0_ := Aside0.mk (blk_drew BK138.out)
                    have n1_ := Aside0.mk (blk_drew BK139.out)
                    have n2_ := Aside0.mk (blk_drew BK140.out)
                    have n3_ := Aside0.mk (blk_drew BK150.out)
                    have n4_ := Aside0.mk (below_drew1 HB.out)
                    clear BK138
                    clear BK139
                    clear BK140
                    clear BK150
                    clear HB
                    have BK138 := n0_
                    have BK139 := n1_
                    have BK140 := n2_
                    have BK150 := n3_
                    have HB := n4_
                    clear n0_ n1_ n2_ n3_ n4_
                    refine start_ (n := 15) (S := fun w' => w'.cell? ⟨gb138, 0, none⟩ = some (.int .i64 a0_0) ∧ w'.cell? ⟨gb138, 1, none⟩ = some (.int .i64 a0_1) ∧ w'.cell? ⟨gb140, 0, none⟩ = some (.int .i64 a2_0) ∧ w'.cell? ⟨gb140, 1, none⟩ = some (.int .i64 a2_1) ∧ w'.cell? ⟨gb139, 0, none⟩ = some (.int .i64 a1_0) ∧ w'.cell? ⟨gb139, 1, none⟩ = some (.int .i64 a1_1)) (ds := []) #[false, false, false, false, false, false, false, false, false, false, false, false, false, false, false] (by kernel_rfl) rfl rfl ⟨(blk_cell BK138.out 0).trans rfl, (blk_cell BK138.out 1).trans rfl, (blk_cell BK140.out 0).trans rfl, (blk_cell BK140.out 1).trans rfl, (blk_cell BK139.out 0).trans rfl, (blk_cell BK139.out 1).trans rfl⟩ (fun hHeld => ?_); refine with_tabW ropewaylaw04_ChangeTurns.tab8 ropewaylaw04_ChangeTurns.bits8 (fun HT_ HW_ => ?_)
                    generalize wc.drew = w85 at BK138 BK139 BK140 BK150 HB hHeld ⊢
                    refine take_ (i := 0) (N := some 57) (v := ?_) (a' := ?_) #[true, false, false, false, false, false, false, false, false, false, false, false, false, false, false] rfl rfl (take_ofW HT_.out HW_.out (by kernel_rfl)) (fun _ _ _ h => h) (Or.inl ⟨by rfl, ?_⟩) hHeld ?_ ?_
                    rotate_left
                    · rintro w' ⟨s0, s1, s2, s3, s4, s5⟩
                      go_simp
                      with_reducible rfl
                    rotate_left
                    · simp only [Act.put, List.setIfInBounds_toArray, List.set_cons_zero, List.set_cons_succ, i64_w, i32_w]
                      rfl
                    refine take_ (i := 1) (N := some 58) (v := ?_) (a' := ?_) #[true, true, false, false, false, false, false, false, false, false, false, false, false, false, false] rfl rfl (take_ofW HT_.out HW_.out (by kernel_rfl)) (fun _ _ _ h => h) (Or.inl ⟨by rfl, ?_⟩) hHeld ?_ ?_
                    rotate_left
                    · rintro w' ⟨s0, s1, s2, s3, s4, s5⟩
                      go_simp
                      with_reducible rfl
                    rotate_left
                    · simp only [Act.put, List.setIfInBounds_toArray, List.set_cons_zero, List.set_cons_succ, i64_w, i32_w]
                      rfl
                    refine one_ (i := 2) (N := some 59) #[true, true, true, false, false, false, false, false, false, false, false, false, false, false, false] rfl rfl (one_of HT_.out (by kernel_rfl)) (by decide) (fun K hK => ?_)
                    refine goes_ Try.func29 (by kernel_rfl) rfl #[.agg #[.int .i64 a0_0, .int .i64 a0_1], .agg #[.int .i64 a2_0, .int .i64 a2_1]] (by rfl) rfl rfl (by (try simp only [List.map_toArray, List.map_cons, List.map_nil]); first | done | rfl | (simp only [List.length_drop, List.length_take]; rfl)) ?_
                    with_reducible refine (change_Within.calls a0_0 a0_1 a2_0 a2_1 true _ A80.out).mono ?_
                    rintro e w86 ⟨rfl, hb⟩
                    refine ⟨_, rfl, ?_⟩
                    have n0_ := Aside0.mk (blk_below (g := gb138) (o := .cells #[.int .i64 a0_0, .int .i64 a0_1] 38 (0, 0)) blk_ hb)
                    have n1_ := Aside0.mk (blk_below (g := gb139) (o := .cells #[.int .i64 a1_0, .int .i64 a1_1] 38 (0, 0)) blk_ hb)
                    have n2_ := Aside0.mk (blk_below (g := gb140) (o := .cells #[.int .i64 a2_0, .int .i64 a2_1] 38 (0, 0)) blk_ hb)
                    have n3_ := Aside0.mk (blk_below (g := gb150) (o := .cells #[.int .i64 t148, .int .i64 t149] 38 (0, 0)) blk_ hb)
                    have n4_ := Aside0.mk (below_step bel_ hb)
                    clear BK138
                    clear BK139
                    clear BK140
                    clear BK150
                    clear HB
                    have BK138 := n0_
                    have BK139 := n1_
                    have BK140 := n2_
                    have BK150 := n3_
                    have HB := n4_
                    clear n0_ n1_ n2_ n3_ n4_
                    (try clear hb)
                    (try clear hb2)
                    (try clear hk)
                    (try clear hi)
                    refine hK.out _ _ ⟨(blk_cell BK138.out 0).trans rfl, (blk_cell BK138.out 1).trans rfl, (blk_cell BK140.out 0).trans rfl, (blk_cell BK140.out 1).trans rfl, (blk_cell BK139.out 0).trans rfl, (blk_cell BK139.out 1).trans rfl⟩ (fun hHeld => ?_)
                    clear hK K
                    refine norm_ (a' := ?_) ?_ ?_
                    rotate_left
                    · show Act.put _ (some 59) _ = _
                      simp only [Act.put, List.setIfInBounds_toArray, List.set_cons_zero, List.set_cons_succ, i64_w, i32_w]
                      rfl
                    refine pure_ (i := 3) (N := some 60) (v := ?_) (a' := ?_) #[true, true, true, true, false, false, false, false, false, false, false, false, false, false, false] rfl rfl (any_of HT_.out (by kernel_rfl)) (fun _ _ _ h => h) (Or.inl ⟨by rfl, ?_⟩) ?_ ?_
                    rotate_left
                    · intro w'
                      go_simp
                      with_reducible rfl
                    rotate_left
                    · simp only [Act.put, List.setIfInBounds_toArray, List.set_cons_zero, List.set_cons_succ, i64_w, i32_w]
                      rfl
                    refine take_ (i := 4) (N := some 61) (v := ?_) (a' := ?_) #[true, true, true, true, true, false, false, false, false, false, false, false, false, false, false] rfl rfl (take_ofW HT_.out HW_.out (by kernel_rfl)) (fun _ _ _ h => h) (Or.inl ⟨by rfl, ?_⟩) hHeld ?_ ?_
                    rotate_left
                    · rintro w' ⟨s0, s1, s2, s3, s4, s5⟩
                      go_simp
                      with_reducible rfl
                    rotate_left
                    · simp only [Act.put, List.setIfInBounds_toArray, List.set_cons_zero, List.set_cons_succ, i64_w, i32_w]
                      rfl
                    refine take_ (i := 5) (N := some 62) (v := ?_) (a' := ?_) #[true, true, true, true, true, true, false, false, false, false, false, false, false, false, false] rfl rfl (take_ofW HT_.out HW_.out (by kernel_rfl)) (fun _ _ _ h => h) (Or.inl ⟨by rfl, ?_⟩) hHeld ?_ ?_
                    rotate_left
                    · rintro w' ⟨s0, s1, s2, s3, s4, s5⟩
                      go_simp
                      with_reducible rfl
                    rotate_left
                    · simp only [Act.put, List.setIfInBounds_toArray, List.set_cons_zero, List.set_cons_succ, i64_w, i32_w]
                      rfl
                    refine take_ (i := 7) (N := some 64) (v := ?_) (a' := ?_) #[true, true, true, true, true, true, false, true, false, false, false, false, false, false, false] rfl rfl (take_ofW HT_.out HW_.out (by kernel_rfl)) (fun _ _ _ h => h) (Or.inl ⟨by rfl, ?_⟩) hHeld ?_ ?_
                    rotate_left
                    · rintro w' ⟨s0, s1, s2, s3, s4, s5⟩
                      go_simp
                      with_reducible rfl
                    rotate_left
                    · simp only [Act.put, List.setIfInBounds_toArray, List.set_cons_zero, List.set_cons_succ, i64_w, i32_w]
                      rfl
                    refine take_ (i := 8) (N := some 65) (v := ?_) (a' := ?_) #[true, true, true, true, true, true, false, true, true, false, false, false, false, false, false] rfl rfl (take_ofW HT_.out HW_.out (by kernel_rfl)) (fun _ _ _ h => h) (Or.inl ⟨by rfl, ?_⟩) hHeld ?_ ?_
                    rotate_left
                    · rintro w' ⟨s0, s1, s2, s3, s4, s5⟩
                      go_simp
                      with_reducible rfl
                    rotate_left
                    · simp only [Act.put, List.setIfInBounds_toArray, List.set_cons_zero, List.set_cons_succ, i64_w, i32_w]
                      rfl
                    refine take_ (i := 11) (N := some 68) (v := ?_) (a' := ?_) #[true, true, true, true, true, true, false, true, true, false, false, true, false, false, false] rfl rfl (take_ofW HT_.out HW_.out (by kernel_rfl)) (fun _ _ _ h => h) (Or.inl ⟨by rfl, ?_⟩) hHeld ?_ ?_
                    rotate_left
                    · rintro w' ⟨s0, s1, s2, s3, s4, s5⟩
                      go_simp
                      with_reducible rfl
                    rotate_left
                    · simp only [Act.put, List.setIfInBounds_toArray, List.set_cons_zero, List.set_cons_succ, i64_w, i32_w]
                      rfl
                    refine join_ (σ := Value) 4 #[true, true, true, true, true, true, true, true, true, true, false, true, false, false, false] (fun s_ => [(63, .bool t169), (66, s_)]) (fun s_ w' => (w'.cell? ⟨gb138, 0, none⟩ = some (.int .i64 a0_0) ∧ w'.cell? ⟨gb138, 1, none⟩ = some (.int .i64 a0_1) ∧ w'.cell? ⟨gb140, 0, none⟩ = some (.int .i64 a2_0) ∧ w'.cell? ⟨gb140, 1, none⟩ = some (.int .i64 a2_1) ∧ w'.cell? ⟨gb139, 0, none⟩ = some (.int .i64 a1_0) ∧ w'.cell? ⟨gb139, 1, none⟩ = some (.int .i64 a1_1)) ∧ (Kd.R k38 38 w' w.heap.size (fun k_ => k_ ≠ gb138 ∧ k_ ≠ gb139 ∧ k_ ≠ gb140 ∧ k_ ≠ gb150) s_ y170) ∧ (w'.heap[gb138]? = some (.cells #[.int .i64 a0_0, .int .i64 a0_1] 38 (0, 0))) ∧ (w'.heap[gb139]? = some (.cells #[.int .i64 a1_0, .int .i64 a1_1] 38 (0, 0))) ∧ (w'.heap[gb140]? = some (.cells #[.int .i64 a2_0, .int .i64 a2_1] 38 (0, 0))) ∧ (w'.heap[gb150]? = some (.cells #[.int .i64 t148, .int .i64 t149] 38 (0, 0))) ∧ (Below w.heap.size w w')) ?_ ?_
                    rotate_left
                    · intro hCont
                      refine two_ (i := 6) (j := 9) (Ni := some 63) (Nj := some 66) #[true, true, true, true, true, true, true, true, true, false, false, true, false, false, false] #[true, true, true, true, true, true, false, true, true, true, false, true, false, false, false] rfl rfl rfl rfl (two_of HT_.out (by kernel_rfl)) (by decide) (by decide) (fun K hK => ?_) (fun K hK => ?_)
                      · skip
                        refine goes_ Try.func29 (by kernel_rfl) rfl #[.agg #[.int .i64 a1_0, .int .i64 a1_1], .agg #[.int .i64 a2_0, .int .i64 a2_1]] (by rfl) rfl rfl (by (try simp only [List.map_toArray, List.map_cons, List.map_nil]); first | done | rfl | (simp only [List.length_drop, List.length_take]; rfl)) ?_
                        with_reducible refine (change_Within.calls a1_0 a1_1 a2_0 a2_1 t169 _ A82.out).mono ?_
                        rintro e w87 ⟨rfl, hb⟩
                        refine ⟨_, rfl, ?_⟩
                        have n0_ := Aside0.mk (blk_below (g := gb138) (o := .cells #[.int .i64 a0_0, .int .i64 a0_1] 38 (0, 0)) blk_ hb)
                        have n1_ := Aside0.mk (blk_below (g := gb139) (o := .cells #[.int .i64 a1_0, .int .i64 a1_1] 38 (0, 0)) blk_ hb)
                        have n2_ := Aside0.mk (blk_below (g := gb140) (o := .cells #[.int .i64 a2_0, .int .i64 a2_1] 38 (0, 0)) blk_ hb)
                        have n3_ := Aside0.mk (blk_below (g := gb150) (o := .cells #[.int .i64 t148, .int .i64 t149] 38 (0, 0)) blk_ hb)
                        have n4_ := Aside0.mk (below_step bel_ hb)
                        clear BK138
                        clear BK139
                        clear BK140
                        clear BK150
                        clear HB
                        have BK138 := n0_
                        have BK139 := n1_
                        have BK140 := n2_
                        have BK150 := n3_
                        have HB := n4_
                        clear n0_ n1_ n2_ n3_ n4_
                        (try clear hb)
                        (try clear hb2)
                        (try clear hk)
                        (try clear hi)
                        refine hK.out _ _ ⟨(blk_cell BK138.out 0).trans rfl, (blk_cell BK138.out 1).trans rfl, (blk_cell BK140.out 0).trans rfl, (blk_cell BK140.out 1).trans rfl, (blk_cell BK139.out 0).trans rfl, (blk_cell BK139.out 1).trans rfl⟩ (fun hHeld => ?_)
                        clear hK K
                        refine norm_ (a' := ?_) ?_ ?_
                        rotate_left
                        · show Act.put _ (some 63) _ = _
                          simp only [Act.put, List.setIfInBounds_toArray, List.set_cons_zero, List.set_cons_succ, i64_w, i32_w]
                          rfl
                        refine one_ (i := 9) (N := some 66) #[true, true, true, true, true, true, true, true, true, true, false, true, false, false, false] rfl rfl (one_of HT_.out (by kernel_rfl)) (by decide) (fun K hK => ?_)
                        refine Kd.R_lit_step k38 _ 38 ?hg (N := 66) ?hd (xs := ([(⟨a0_0, a0_1⟩ : S38), (⟨a1_0, a1_1⟩ : S38)] : List (S38))) (inner := [.int .i64 a0_0, .int .i64 a0_1, .int .i64 a1_0, .int .i64 a1_1]) (ok := fun _ => True) (okp := fun _ => True) ?hr ?hp (fun _ hk => hk) trivial (Below.refl _ _) (Nat.le_refl _) (by simp) ?_; (case hd => rfl); (case hg => rfl); (case hr => first | (go_simp; done) | (go_simp; rfl)); (case hp => exact (Reps.c2 (show Kd.M k38 _ _ _ (⟨a0_0, a0_1⟩ : S38) [.int .i64 a0_0, .int .i64 a0_1] from (k38_mkM _ _ _ (⟨a0_0, a0_1⟩ : S38) )) (Reps.c2 (show Kd.M k38 _ _ _ (⟨a1_0, a1_1⟩ : S38) [.int .i64 a1_0, .int .i64 a1_1] from (k38_mkM _ _ _ (⟨a1_0, a1_1⟩ : S38) )) (Reps.none _ _))))
                        intro v171 w88 ho89 hb hg_ hnew_
                        clear hg_ hnew_
                        (first | rw [← Ny170.out] at ho89 | (simp only [Int.reduceToNat] at ho89; rw [← Ny170.out] at ho89))
                        have n0_ := Aside0.mk (Kd.R_lower (Kd.R_newB (Kd.R_newB (Kd.R_newB (Kd.R_newB ho89 (g := gb138) (o := .cells #[.int .i64 a0_0, .int .i64 a0_1] 38 (0, 0)) blk_) (g := gb139) (o := .cells #[.int .i64 a1_0, .int .i64 a1_1] 38 (0, 0)) blk_) (g := gb140) (o := .cells #[.int .i64 a2_0, .int .i64 a2_1] 38 (0, 0)) blk_) (g := gb150) (o := .cells #[.int .i64 t148, .int .i64 t149] 38 (0, 0)) blk_) (below_size bel_))
                        have n1_ := Aside0.mk (blk_below (g := gb138) (o := .cells #[.int .i64 a0_0, .int .i64 a0_1] 38 (0, 0)) blk_ hb)
                        have n2_ := Aside0.mk (blk_below (g := gb139) (o := .cells #[.int .i64 a1_0, .int .i64 a1_1] 38 (0, 0)) blk_ hb)
                        have n3_ := Aside0.mk (blk_below (g := gb140) (o := .cells #[.int .i64 a2_0, .int .i64 a2_1] 38 (0, 0)) blk_ hb)
                        have n4_ := Aside0.mk (blk_below (g := gb150) (o := .cells #[.int .i64 t148, .int .i64 t149] 38 (0, 0)) blk_ hb)
                        have n5_ := Aside0.mk (below_step bel_ hb)
                        clear BK138
                        clear BK139
                        clear BK140
                        clear BK150
                        clear HB
                        have HO172 := n0_
                        have BK138 := n1_
                        have BK139 := n2_
                        have BK140 := n3_
                        have BK150 := n4_
                        have HB := n5_
                        clear n0_ n1_ n2_ n3_ n4_ n5_
                        clear hb ho89
                        refine hK.out _ _ ⟨(blk_cell BK138.out 0).trans rfl, (blk_cell BK138.out 1).trans rfl, (blk_cell BK140.out 0).trans rfl, (blk_cell BK140.out 1).trans rfl, (blk_cell BK139.out 0).trans rfl, (blk_cell BK139.out 1).trans rfl⟩ (fun hHeld => ?_)
                        clear hK K
                        refine norm_ (a' := ?_) ?_ ?_
                        rotate_left
                        · show Act.put _ (some 66) _ = _
                          simp only [Act.put, List.setIfInBounds_toArray, List.set_cons_zero, List.set_cons_succ, i64_w, i32_w]
                          rfl
                        exact norm_ (by simp only [putAll, Act.put, List.setIfInBounds_toArray, List.set_cons_zero, List.set_cons_succ]) (hCont (v171) _ ⟨hHeld, (by (with_reducible repeat (first | apply Kd.R_alloc | apply Kd.R_drewN | apply Kd.R_drew)); exact Kd.R_mono HO172.out (fun _ hk => ⟨hk.1.1.1.2, ⟨hk.1.1.2, ⟨hk.1.2, hk.2⟩⟩⟩)), blk_, blk_, blk_, blk_, bel_⟩)
                      · skip
                        refine Kd.R_lit_step k38 _ 38 ?hg (N := 66) ?hd (xs := ([(⟨a0_0, a0_1⟩ : S38), (⟨a1_0, a1_1⟩ : S38)] : List (S38))) (inner := [.int .i64 a0_0, .int .i64 a0_1, .int .i64 a1_0, .int .i64 a1_1]) (ok := fun _ => True) (okp := fun _ => True) ?hr ?hp (fun _ hk => hk) trivial (Below.refl _ _) (Nat.le_refl _) (by simp) ?_; (case hd => rfl); (case hg => rfl); (case hr => first | (go_simp; done) | (go_simp; rfl)); (case hp => exact (Reps.c2 (show Kd.M k38 _ _ _ (⟨a0_0, a0_1⟩ : S38) [.int .i64 a0_0, .int .i64 a0_1] from (k38_mkM _ _ _ (⟨a0_0, a0_1⟩ : S38) )) (Reps.c2 (show Kd.M k38 _ _ _ (⟨a1_0, a1_1⟩ : S38) [.int .i64 a1_0, .int .i64 a1_1] from (k38_mkM _ _ _ (⟨a1_0, a1_1⟩ : S38) )) (Reps.none _ _))))
                        intro v171 w87 ho88 hb hg_ hnew_
                        clear hg_ hnew_
                        (first | rw [← Ny170.out] at ho88 | (simp only [Int.reduceToNat] at ho88; rw [← Ny170.out] at ho88))
                        have n0_ := Aside0.mk (Kd.R_lower (Kd.R_newB (Kd.R_newB (Kd.R_newB (Kd.R_newB ho88 (g := gb138) (o := .cells #[.int .i64 a0_0, .int .i64 a0_1] 38 (0, 0)) blk_) (g := gb139) (o := .cells #[.int .i64 a1_0, .int .i64 a1_1] 38 (0, 0)) blk_) (g := gb140) (o := .cells #[.int .i64 a2_0, .int .i64 a2_1] 38 (0, 0)) blk_) (g := gb150) (o := .cells #[.int .i64 t148, .int .i64 t149] 38 (0, 0)) blk_) (below_size bel_))
                        have n1_ := Aside0.mk (blk_below (g := gb138) (o := .cells #[.int .i64 a0_0, .int .i64 a0_1] 38 (0, 0)) blk_ hb)
                        have n2_ := Aside0.mk (blk_below (g := gb139) (o := .cells #[.int .i64 a1_0, .int .i64 a1_1] 38 (0, 0)) blk_ hb)
                        have n3_ := Aside0.mk (blk_below (g := gb140) (o := .cells #[.int .i64 a2_0, .int .i64 a2_1] 38 (0, 0)) blk_ hb)
                        have n4_ := Aside0.mk (blk_below (g := gb150) (o := .cells #[.int .i64 t148, .int .i64 t149] 38 (0, 0)) blk_ hb)
                        have n5_ := Aside0.mk (below_step bel_ hb)
                        clear BK138
                        clear BK139
                        clear BK140
                        clear BK150
                        clear HB
                        have HO172 := n0_
                        have BK138 := n1_
                        have BK139 := n2_
                        have BK140 := n3_
                        have BK150 := n4_
                        have HB := n5_
                        clear n0_ n1_ n2_ n3_ n4_ n5_
                        clear hb ho88
                        refine hK.out _ _ ⟨(blk_cell BK138.out 0).trans rfl, (blk_cell BK138.out 1).trans rfl, (blk_cell BK140.out 0).trans rfl, (blk_cell BK140.out 1).trans rfl, (blk_cell BK139.out 0).trans rfl, (blk_cell BK139.out 1).trans rfl⟩ (fun hHeld => ?_)
                        clear hK K
                        refine norm_ (a' := ?_) ?_ ?_
                        rotate_left
                        · show Act.put _ (some 66) _ = _
                          simp only [Act.put, List.setIfInBounds_toArray, List.set_cons_zero, List.set_cons_succ, i64_w, i32_w]
                          rfl
                        refine one_ (i := 6) (N := some 63) #[true, true, true, true, true, true, true, true, true, true, false, true, false, false, false] rfl rfl (one_of HT_.out (by kernel_rfl)) (by decide) (fun K hK => ?_)
                        refine goes_ Try.func29 (by kernel_rfl) rfl #[.agg #[.int .i64 a1_0, .int .i64 a1_1], .agg #[.int .i64 a2_0, .int .i64 a2_1]] (by rfl) rfl rfl (by (try simp only [List.map_toArray, List.map_cons, List.map_nil]); first | done | rfl | (simp only [List.length_drop, List.length_take]; rfl)) ?_
                        with_reducible refine (change_Within.calls a1_0 a1_1 a2_0 a2_1 t169 _ A82.out).mono ?_
                        rintro e w89 ⟨rfl, hb⟩
                        refine ⟨_, rfl, ?_⟩
                        have n0_ := Aside0.mk (Kd.R_below (by (with_reducible repeat (first | apply Kd.R_alloc | apply Kd.R_drewN | apply Kd.R_drew)); exact HO172.out) hb)
                        have n1_ := Aside0.mk (blk_below (g := gb138) (o := .cells #[.int .i64 a0_0, .int .i64 a0_1] 38 (0, 0)) blk_ hb)
                        have n2_ := Aside0.mk (blk_below (g := gb139) (o := .cells #[.int .i64 a1_0, .int .i64 a1_1] 38 (0, 0)) blk_ hb)
                        have n3_ := Aside0.mk (blk_below (g := gb140) (o := .cells #[.int .i64 a2_0, .int .i64 a2_1] 38 (0, 0)) blk_ hb)
                        have n4_ := Aside0.mk (blk_below (g := gb150) (o := .cells #[.int .i64 t148, .int .i64 t149] 38 (0, 0)) blk_ hb)
                        have n5_ := Aside0.mk (below_step bel_ hb)
                        clear HO172
                        clear BK138
                        clear BK139
                        clear BK140
                        clear BK150
                        clear HB
                        have HO172 := n0_
                        have BK138 := n1_
                        have BK139 := n2_
                        have BK140 := n3_
                        have BK150 := n4_
                        have HB := n5_
                        clear n0_ n1_ n2_ n3_ n4_ n5_
                        (try clear hb)
                        (try clear hb2)
                        (try clear hk)
                        (try clear hi)
                        refine hK.out _ _ ⟨(blk_cell BK138.out 0).trans rfl, (blk_cell BK138.out 1).trans rfl, (blk_cell BK140.out 0).trans rfl, (blk_cell BK140.out 1).trans rfl, (blk_cell BK139.out 0).trans rfl, (blk_cell BK139.out 1).trans rfl⟩ (fun hHeld => ?_)
                        clear hK K
                        refine norm_ (a' := ?_) ?_ ?_
                        rotate_left
                        · show Act.put _ (some 63) _ = _
                          simp only [Act.put, List.setIfInBounds_toArray, List.set_cons_zero, List.set_cons_succ, i64_w, i32_w]
                          rfl
                        exact norm_ (by simp only [putAll, Act.put, List.setIfInBounds_toArray, List.set_cons_zero, List.set_cons_succ]) (hCont (v171) _ ⟨hHeld, (by (with_reducible repeat (first | apply Kd.R_alloc | apply Kd.R_drewN | apply Kd.R_drew)); exact Kd.R_mono HO172.out (fun _ hk => ⟨hk.1.1.1.2, ⟨hk.1.1.2, ⟨hk.1.2, hk.2⟩⟩⟩)), blk_, blk_, blk_, blk_, bel_⟩)
                    rintro v171 w90 ⟨hS_, h0_, h1_, h2_, h3_, h4_, h5_⟩
                    have n0_ : Aside0 (Kd.R k38 38 w90 w.heap.size (fun k_ => k_ ≠ gb138 ∧ k_ ≠ gb139 ∧ k_ ≠ gb140 ∧ k_ ≠ gb150) v171 y170) := ⟨h0_⟩
                    have n1_ : Aside0 (w90.heap[gb138]? = some (.cells #[.int .i64 a0_0, .int .i64 a0_1] 38 (0, 0))) := ⟨h1_⟩
                    have n2_ : Aside0 (w90.heap[gb139]? = some (.cells #[.int .i64 a1_0, .int .i64 a1_1] 38 (0, 0))) := ⟨h2_⟩
                    have n3_ : Aside0 (w90.heap[gb140]? = some (.cells #[.int .i64 a2_0, .int .i64 a2_1] 38 (0, 0))) := ⟨h3_⟩
                    have n4_ : Aside0 (w90.heap[gb150]? = some (.cells #[.int .i64 t148, .int .i64 t149] 38 (0, 0))) := ⟨h4_⟩
                    have n5_ : Aside0 (Below w.heap.size w w90) := ⟨h5_⟩
                    clear BK138
                    clear BK139
                    clear BK140
                    clear BK150
                    clear HB
                    clear h0_ h1_ h2_ h3_ h4_ h5_
                    have HO172 := n0_
                    have BK138 := n1_
                    have BK139 := n2_
                    have BK140 := n3_
                    have BK150 := n4_
                    have HB := n5_
                    clear n0_ n1_ n2_ n3_ n4_ n5_
                    have hHeld : w90.cell? ⟨gb138, 0, none⟩ = some (.int .i64 a0_0) ∧ w90.cell? ⟨gb138, 1, none⟩ = some (.int .i64 a0_1) ∧ w90.cell? ⟨gb140, 0, none⟩ = some (.int .i64 a2_0) ∧ w90.cell? ⟨gb140, 1, none⟩ = some (.int .i64 a2_1) ∧ w90.cell? ⟨gb139, 0, none⟩ = some (.int .i64 a1_0) ∧ w90.cell? ⟨gb139, 1, none⟩ = some (.int .i64 a1_1) := hS_
                    obtain ⟨Ao91, co91, eo91⟩ := Kd.R_slice HO172.out
                    (first | subst eo91 | (injection eo91 with f1_ f2_ f3_; have f4_ := f1_.symm; have f5_ := f3_.symm; clear f1_ f2_ f3_; subst f4_; subst f5_))
                    refine norm_ (a' := ?_) ?_ ?_
                    rotate_left
                    · simp only [putAll, Act.put, List.setIfInBounds_toArray, List.set_cons_zero, List.set_cons_succ]
                      rfl
                    refine one_ (i := 10) (N := some 67) #[true, true, true, true, true, true, true, true, true, true, true, true, false, false, false] rfl rfl (one_of HT_.out (by kernel_rfl)) (by decide) (fun K hK => ?_)
                    refine goes_ Try.func26 (by kernel_rfl) rfl #[.slice Ao91 y170.length co91] (by rfl) rfl rfl (by (try simp only [List.map_toArray, List.map_cons, List.map_nil]); first | done | rfl | (simp only [List.length_drop, List.length_take]; rfl)) ?_
                    with_reducible refine (change_Join.calls kj37 _ _ y170 t173 t174 _ ?side1 ?side2 A83.out).mono ?_
                    (case side1 => repeat (first | exact (Kd.R_reads' HO172.out).2.2 | (with_reducible refine Kd.C_alloc ?_ _) | (with_reducible refine Kd.C_drewN ?_ _) | (with_reducible refine Kd.C_drew ?_)))
                    (case side2 => exact (Kd.R_reads' HO172.out).2.1)
                    rintro e w92 ⟨rfl, hb⟩
                    refine ⟨_, rfl, ?_⟩
                    have n0_ := Aside0.mk (Kd.R_below (by (with_reducible repeat (first | apply Kd.R_alloc | apply Kd.R_drewN | apply Kd.R_drew)); exact HO172.out) hb)
                    have n1_ := Aside0.mk (blk_below (g := gb138) (o := .cells #[.int .i64 a0_0, .int .i64 a0_1] 38 (0, 0)) blk_ hb)
                    have n2_ := Aside0.mk (blk_below (g := gb139) (o := .cells #[.int .i64 a1_0, .int .i64 a1_1] 38 (0, 0)) blk_ hb)
                    have n3_ := Aside0.mk (blk_below (g := gb140) (o := .cells #[.int .i64 a2_0, .int .i64 a2_1] 38 (0, 0)) blk_ hb)
                    have n4_ := Aside0.mk (blk_below (g := gb150) (o := .cells #[.int .i64 t148, .int .i64 t149] 38 (0, 0)) blk_ hb)
                    have n5_ := Aside0.mk (below_step bel_ hb)
                    clear HO172
                    clear BK138
                    clear BK139
                    clear BK140
                    clear BK150
                    clear HB
                    have HO172 := n0_
                    have BK138 := n1_
                    have BK139 := n2_
                    have BK140 := n3_
                    have BK150 := n4_
                    have HB := n5_
                    clear n0_ n1_ n2_ n3_ n4_ n5_
                    (try clear hb)
                    (try clear hb2)
                    (try clear hk)
                    (try clear hi)
                    refine hK.out _ _ ⟨(blk_cell BK138.out 0).trans rfl, (blk_cell BK138.out 1).trans rfl, (blk_cell BK140.out 0).trans rfl, (blk_cell BK140.out 1).trans rfl, (blk_cell BK139.out 0).trans rfl, (blk_cell BK139.out 1).trans rfl⟩ (fun hHeld => ?_)
                    clear hK K
                    refine norm_ (a' := ?_) ?_ ?_
                    rotate_left
                    · show Act.put _ (some 67) _ = _
                      simp only [Act.put, List.setIfInBounds_toArray, List.set_cons_zero, List.set_cons_succ, i64_w, i32_w]
                      rfl
                    refine one_ (i := 12) (N := some 69) #[true, true, true, true, true, true, true, true, true, true, true, true, true, false, false] rfl rfl (one_of HT_.out (by kernel_rfl)) (by decide) (fun K hK => ?_)
                    refine goes_ Try.func29 (by kernel_rfl) rfl #[.agg #[.int .i64 t173, .int .i64 t174], .agg #[.int .i64 a2_0, .int .i64 a2_1]] (by rfl) rfl rfl (by (try simp only [List.map_toArray, List.map_cons, List.map_nil]); first | done | rfl | (simp only [List.length_drop, List.length_take]; rfl)) ?_
                    with_reducible refine (change_Within.calls t173 t174 a2_0 a2_1 t175 _ A84.out).mono ?_
                    rintro e w93 ⟨rfl, hb⟩
                    refine ⟨_, rfl, ?_⟩
                    have n0_ := Aside0.mk (Kd.R_below (by (with_reducible repeat (first | apply Kd.R_alloc | apply Kd.R_drewN | apply Kd.R_drew)); exact HO172.out) hb)
                    have n1_ := Aside0.mk (blk_below (g := gb138) (o := .cells #[.int .i64 a0_0, .int .i64 a0_1] 38 (0, 0)) blk_ hb)
                    have n2_ := Aside0.mk (blk_below (g := gb139) (o := .cells #[.int .i64 a1_0, .int .i64 a1_1] 38 (0, 0)) blk_ hb)
                    have n3_ := Aside0.mk (blk_below (g := gb140) (o := .cells #[.int .i64 a2_0, .int .i64 a2_1] 38 (0, 0)) blk_ hb)
                    have n4_ := Aside0.mk (blk_below (g := gb150) (o := .cells #[.int .i64 t148, .int .i64 t149] 38 (0, 0)) blk_ hb)
                    have n5_ := Aside0.mk (below_step bel_ hb)
                    clear HO172
                    clear BK138
                    clear BK139
                    clear BK140
                    clear BK150
                    clear HB
                    have HO172 := n0_
                    have BK138 := n1_
                    have BK139 := n2_
                    have BK140 := n3_
                    have BK150 := n4_
                    have HB := n5_
                    clear n0_ n1_ n2_ n3_ n4_ n5_
                    (try clear hb)
                    (try clear hb2)
                    (try clear hk)
                    (try clear hi)
                    refine hK.out _ _ ⟨(blk_cell BK138.out 0).trans rfl, (blk_cell BK138.out 1).trans rfl, (blk_cell BK140.out 0).trans rfl, (blk_cell BK140.out 1).trans rfl, (blk_cell BK139.out 0).trans rfl, (blk_cell BK139.out 1).trans rfl⟩ (fun hHeld => ?_)
                    clear hK K
                    refine norm_ (a' := ?_) ?_ ?_
                    rotate_left
                    · show Act.put _ (some 69) _ = _
                      simp only [Act.put, List.setIfInBounds_toArray, List.set_cons_zero, List.set_cons_succ, i64_w, i32_w]
                      rfl
                    refine pure_ (i := 13) (N := some 70) (v := ?_) (a' := ?_) #[true, true, true, true, true, true, true, true, true, true, true, true, true, true, false] rfl rfl (any_of HT_.out (by kernel_rfl)) (fun _ _ _ h => h) (Or.inl ⟨by rfl, ?_⟩) ?_ ?_
                    rotate_left
                    · intro w'
                      go_simp
                      with_reducible rfl
                    rotate_left
                    · simp only [Act.put, List.setIfInBounds_toArray, List.set_cons_zero, List.set_cons_succ, i64_w, i32_w]
                      rfl
                    refine pure_ (i := 14) (N := some 71) (v := ?_) (a' := ?_) #[true, true, true, true, true, true, true, true, true, true, true, true, true, true, true] rfl rfl (any_of HT_.out (by kernel_rfl)) (fun _ _ _ h => h) (Or.inl ⟨by rfl, ?_⟩) ?_ ?_
                    rotate_left
                    · intro w'
                      go_simp
                      with_reducible rfl
                    rotate_left
                    · simp only [Act.put, List.setIfInBounds_toArray, List.set_cons_zero, List.set_cons_succ, i64_w, i32_w]
                      rfl
                    refine done_ (done_of HT_.out (by kernel_rfl)) ?_
                    try go_wp2
                    go_meet
                    case rel => exact ⟨_, ((t169 != t175)), (by first | rfl | (simp; done) | (simp [*]; done) | (simp; grind)), H', ⟨by have := HJ5.out; have := HJ37.out; first | omega | exact Nat.le_refl _⟩, ⟨by (with_reducible repeat (first | refine blk_drewN ?_ _ | refine blk_drew ?_ | refine blk_alloc ?_ _)); exact BK138.out⟩, ⟨by (with_reducible repeat (first | refine blk_drewN ?_ _ | refine blk_drew ?_ | refine blk_alloc ?_ _)); exact BK139.out⟩, ⟨by (with_reducible repeat (first | refine blk_drewN ?_ _ | refine blk_drew ?_ | refine blk_alloc ?_ _)); exact BK140.out⟩, ⟨by (with_reducible repeat (first | refine blk_drewN ?_ _ | refine blk_drew ?_ | refine blk_alloc ?_ _)); exact BK150.out⟩, ⟨bel_⟩⟩
                  · replace c81 := Bool.eq_false_iff.mpr c81
                    subst c81
                    have H1 : (ropewaylaw04_ChangeTurns.j2 kj37 false a0_0 a0_1 a1_0 a1_1) = some r := by rw [if_neg (show ¬ (false = true) by decide)] at H; exact H
                    clear H
                    have H := H1
                    clear H1
                    have H' := Aside0.mk H
                    clear H
                    try go_wp2
                    have n0_ := Aside0.mk (blk_drew BK138.out)
                    have n1_ := Aside0.mk (blk_drew BK139.out)
                    have n2_ := Aside0.mk (blk_drew BK140.out)
                    have n3_ := Aside0.mk (blk_drew BK150.out)
                    have n4_ := Aside0.mk (below_drew1 HB.out)
                    clear BK138
                    clear BK139
                    clear BK140
                    clear BK150
                    clear HB
                    have BK138 := n0_
                    have BK139 := n1_
                    have BK140 := n2_
                    have BK150 := n3_
                    have HB := n4_
                    clear n0_ n1_ n2_ n3_ n4_
                    refine start_ (n := 15) (S := fun w' => w'.cell? ⟨gb138, 0, none⟩ = some (.int .i64 a0_0) ∧ w'.cell? ⟨gb138, 1, none⟩ = some (.int .i64 a0_1) ∧ w'.cell? ⟨gb140, 0, none⟩ = some (.int .i64 a2_0) ∧ w'.cell? ⟨gb140, 1, none⟩ = some (.int .i64 a2_1)) (ds := []) #[false, false, false, false, false, false, false, false, false, false, false, false, false, false, false] (by kernel_rfl) rfl rfl ⟨(blk_cell BK138.out 0).trans rfl, (blk_cell BK138.out 1).trans rfl, (blk_cell BK140.out 0).trans rfl, (blk_cell BK140.out 1).trans rfl⟩ (fun hHeld => ?_); refine with_tabW ropewaylaw04_ChangeTurns.tab8 ropewaylaw04_ChangeTurns.bits8 (fun HT_ HW_ => ?_)
                    generalize wc.drew = w94 at BK138 BK139 BK140 BK150 HB hHeld ⊢
                    refine take_ (i := 0) (N := some 57) (v := ?_) (a' := ?_) #[true, false, false, false, false, false, false, false, false, false, false, false, false, false, false] rfl rfl (take_ofW HT_.out HW_.out (by kernel_rfl)) (fun _ _ _ h => h) (Or.inl ⟨by rfl, ?_⟩) hHeld ?_ ?_
                    rotate_left
                    · rintro w' ⟨s0, s1, s2, s3⟩
                      go_simp
                      with_reducible rfl
                    rotate_left
                    · simp only [Act.put, List.setIfInBounds_toArray, List.set_cons_zero, List.set_cons_succ, i64_w, i32_w]
                      rfl
                    refine take_ (i := 1) (N := some 58) (v := ?_) (a' := ?_) #[true, true, false, false, false, false, false, false, false, false, false, false, false, false, false] rfl rfl (take_ofW HT_.out HW_.out (by kernel_rfl)) (fun _ _ _ h => h) (Or.inl ⟨by rfl, ?_⟩) hHeld ?_ ?_
                    rotate_left
                    · rintro w' ⟨s0, s1, s2, s3⟩
                      go_simp
                      with_reducible rfl
                    rotate_left
                    · simp only [Act.put, List.setIfInBounds_toArray, List.set_cons_zero, List.set_cons_succ, i64_w, i32_w]
                      rfl
                    refine one_ (i := 2) (N := some 59) #[true, true, true, false, false, false, false, false, false, false, false, false, false, false, false] rfl rfl (one_of HT_.out (by kernel_rfl)) (by decide) (fun K hK => ?_)
                    refine goes_ Try.func29 (by kernel_rfl) rfl #[.agg #[.int .i64 a0_0, .int .i64 a0_1], .agg #[.int .i64 a2_0, .int .i64 a2_1]] (by rfl) rfl rfl (by (try simp only [List.map_toArray, List.map_cons, List.map_nil]); first | done | rfl | (simp only [List.length_drop, List.length_take]; rfl)) ?_
                    with_reducible refine (change_Within.calls a0_0 a0_1 a2_0 a2_1 false _ A80.out).mono ?_
                    rintro e w95 ⟨rfl, hb⟩
                    refine ⟨_, rfl, ?_⟩
                    have n0_ := Aside0.mk (blk_below (g := gb138) (o := .cells #[.int .i64 a0_0, .int .i64 a0_1] 38 (0, 0)) blk_ hb)
                    have n1_ := Aside0.mk (blk_below (g := gb139) (o := .cells #[.int .i64 a1_0, .int .i64 a1_1] 38 (0, 0)) blk_ hb)
                    have n2_ := Aside0.mk (blk_below (g := gb140) (o := .cells #[.int .i64 a2_0, .int .i64 a2_1] 38 (0, 0)) blk_ hb)
                    have n3_ := Aside0.mk (blk_below (g := gb150) (o := .cells #[.int .i64 t148, .int .i64 t149] 38 (0, 0)) blk_ hb)
                    have n4_ := Aside0.mk (below_step bel_ hb)
                    clear BK138
                    clear BK139
                    clear BK140
                    clear BK150
                    clear HB
                    have BK138 := n0_
                    have BK139 := n1_
                    have BK140 := n2_
                    have BK150 := n3_
                    have HB := n4_
                    clear n0_ n1_ n2_ n3_ n4_
                    (try clear hb)
                    (try clear hb2)
                    (try clear hk)
                    (try clear hi)
                    refine hK.out _ _ ⟨(blk_cell BK138.out 0).trans rfl, (blk_cell BK138.out 1).trans rfl, (blk_cell BK140.out 0).trans rfl, (blk_cell BK140.out 1).trans rfl⟩ (fun hHeld => ?_)
                    clear hK K
                    refine norm_ (a' := ?_) ?_ ?_
                    rotate_left
                    · show Act.put _ (some 59) _ = _
                      simp only [Act.put, List.setIfInBounds_toArray, List.set_cons_zero, List.set_cons_succ, i64_w, i32_w]
                      rfl
                    refine pure_ (i := 3) (N := some 60) (v := ?_) (a' := ?_) #[true, true, true, true, false, false, false, false, false, false, false, false, false, false, false] rfl rfl (any_of HT_.out (by kernel_rfl)) (fun _ _ _ h => h) (Or.inl ⟨by rfl, ?_⟩) ?_ ?_
                    rotate_left
                    · intro w'
                      go_simp
                      with_reducible rfl
                    rotate_left
                    · simp only [Act.put, List.setIfInBounds_toArray, List.set_cons_zero, List.set_cons_succ, i64_w, i32_w]
                      rfl
                    refine pure_ (i := 4) (N := some 61) (v := undef) (a' := ?_) #[true, true, true, true, true, false, false, false, false, false, false, false, false, false, false] rfl rfl (any_of HT_.out (by kernel_rfl)) (fun _ _ _ h => h) (Or.inr ⟨by rfl, rfl⟩) ?_ ?_
                    rotate_left
                    · simp only [Act.put, List.setIfInBounds_toArray, List.set_cons_zero, List.set_cons_succ, i64_w, i32_w]
                      rfl
                    refine pure_ (i := 5) (N := some 62) (v := undef) (a' := ?_) #[true, true, true, true, true, true, false, false, false, false, false, false, false, false, false] rfl rfl (any_of HT_.out (by kernel_rfl)) (fun _ _ _ h => h) (Or.inr ⟨by rfl, rfl⟩) ?_ ?_
                    rotate_left
                    · simp only [Act.put, List.setIfInBounds_toArray, List.set_cons_zero, List.set_cons_succ, i64_w, i32_w]
                      rfl
                    refine pure_ (i := 6) (N := some 63) (v := undef) (a' := ?_) #[true, true, true, true, true, true, true, false, false, false, false, false, false, false, false] rfl rfl (any_of HT_.out (by kernel_rfl)) (fun _ _ _ h => h) (Or.inr ⟨by rfl, rfl⟩) ?_ ?_
                    rotate_left
                    · simp only [Act.put, List.setIfInBounds_toArray, List.set_cons_zero, List.set_cons_succ, i64_w, i32_w]
                      rfl
                    refine pure_ (i := 7) (N := some 64) (v := undef) (a' := ?_) #[true, true, true, true, true, true, true, true, false, false, false, false, false, false, false] rfl rfl (any_of HT_.out (by kernel_rfl)) (fun _ _ _ h => h) (Or.inr ⟨by rfl, rfl⟩) ?_ ?_
                    rotate_left
                    · simp only [Act.put, List.setIfInBounds_toArray, List.set_cons_zero, List.set_cons_succ, i64_w, i32_w]
                      rfl
                    refine pure_ (i := 8) (N := some 65) (v := undef) (a' := ?_) #[true, true, true, true, true, true, true, true, true, false, false, false, false, false, false] rfl rfl (any_of HT_.out (by kernel_rfl)) (fun _ _ _ h => h) (Or.inr ⟨by rfl, rfl⟩) ?_ ?_
                    rotate_left
                    · simp only [Act.put, List.setIfInBounds_toArray, List.set_cons_zero, List.set_cons_succ, i64_w, i32_w]
                      rfl
                    refine pure_ (i := 9) (N := some 66) (v := undef) (a' := ?_) #[true, true, true, true, true, true, true, true, true, true, false, false, false, false, false] rfl rfl (any_of HT_.out (by kernel_rfl)) (fun _ _ _ h => h) (Or.inr ⟨by rfl, rfl⟩) ?_ ?_
                    rotate_left
                    · simp only [Act.put, List.setIfInBounds_toArray, List.set_cons_zero, List.set_cons_succ, i64_w, i32_w]
                      rfl
                    refine pure_ (i := 10) (N := some 67) (v := undef) (a' := ?_) #[true, true, true, true, true, true, true, true, true, true, true, false, false, false, false] rfl rfl (any_of HT_.out (by kernel_rfl)) (fun _ _ _ h => h) (Or.inr ⟨by rfl, rfl⟩) ?_ ?_
                    rotate_left
                    · simp only [Act.put, List.setIfInBounds_toArray, List.set_cons_zero, List.set_cons_succ, i64_w, i32_w]
                      rfl
                    refine pure_ (i := 11) (N := some 68) (v := undef) (a' := ?_) #[true, true, true, true, true, true, true, true, true, true, true, true, false, false, false] rfl rfl (any_of HT_.out (by kernel_rfl)) (fun _ _ _ h => h) (Or.inr ⟨by rfl, rfl⟩) ?_ ?_
                    rotate_left
                    · simp only [Act.put, List.setIfInBounds_toArray, List.set_cons_zero, List.set_cons_succ, i64_w, i32_w]
                      rfl
                    refine pure_ (i := 12) (N := some 69) (v := undef) (a' := ?_) #[true, true, true, true, true, true, true, true, true, true, true, true, true, false, false] rfl rfl (any_of HT_.out (by kernel_rfl)) (fun _ _ _ h => h) (Or.inr ⟨by rfl, rfl⟩) ?_ ?_
                    rotate_left
                    · simp only [Act.put, List.setIfInBounds_toArray, List.set_cons_zero, List.set_cons_succ, i64_w, i32_w]
                      rfl
                    refine pure_ (i := 13) (N := some 70) (v := undef) (a' := ?_) #[true, true, true, true, true, true, true, true, true, true, true, true, true, true, false] rfl rfl (any_of HT_.out (by kernel_rfl)) (fun _ _ _ h => h) (Or.inr ⟨by rfl, rfl⟩) ?_ ?_
                    rotate_left
                    · simp only [Act.put, List.setIfInBounds_toArray, List.set_cons_zero, List.set_cons_succ, i64_w, i32_w]
                      rfl
                    refine pure_ (i := 14) (N := some 71) (v := ?_) (a' := ?_) #[true, true, true, true, true, true, true, true, true, true, true, true, true, true, true] rfl rfl (any_of HT_.out (by kernel_rfl)) (fun _ _ _ h => h) (Or.inl ⟨by rfl, ?_⟩) ?_ ?_
                    rotate_left
                    · intro w'
                      go_simp
                      with_reducible rfl
                    rotate_left
                    · simp only [Act.put, List.setIfInBounds_toArray, List.set_cons_zero, List.set_cons_succ, i64_w, i32_w]
                      rfl
                    refine done_ (done_of HT_.out (by kernel_rfl)) ?_
                    try go_wp2
                    go_meet
                    case rel => exact ⟨_, (false), (by first | rfl | (simp; done) | (simp [*]; done) | (simp; grind)), H', ⟨by have := HJ5.out; have := HJ37.out; first | omega | exact Nat.le_refl _⟩, ⟨by (with_reducible repeat (first | refine blk_drewN ?_ _ | refine blk_drew ?_ | refine blk_alloc ?_ _)); exact BK138.out⟩, ⟨by (with_reducible repeat (first | refine blk_drewN ?_ _ | refine blk_drew ?_ | refine blk_alloc ?_ _)); exact BK139.out⟩, ⟨by (with_reducible repeat (first | refine blk_drewN ?_ _ | refine blk_drew ?_ | refine blk_alloc ?_ _)); exact BK140.out⟩, ⟨by (with_reducible repeat (first | refine blk_drewN ?_ _ | refine blk_drew ?_ | refine blk_alloc ?_ _)); exact BK150.out⟩, ⟨bel_⟩⟩
                case rest =>
                  clear HC79
                  try clear c2
                  try clear p2
                  try clear c5
                  try clear c6
                  try clear c7
                  try clear c8
                  try clear c26
                  try clear c27
                  try clear c29
                  try clear c56
                  try clear c56b0
                  try clear c58
                  try clear c58b0
                  try clear c60
                  try clear c78
                  try clear c81
                  try clear p2
                  obtain ⟨kq, x71_78, rfl, HA, HJ78, BK138, BK139, BK140, BK150, HB⟩ := hcut
                  cases kq with
                  | zero => exact absurd HA.out (by simp [ropewaylaw04_ChangeTurns.j2])
                  | succ kj78 =>
                    have H := HA.out
                    clear HA
                    simp only [ropewaylaw04_ChangeTurns.j2] at H
                    by_cases c96 : x71_78 = true
                    · subst c96
                      have H1 : (some false) = some r := by rw [if_pos rfl] at H; exact H
                      clear H
                      have H := H1
                      clear H1
                      exact absurd (Option.some.inj H) (by rw [hr1_.out]; decide)
                    · replace c96 := Bool.eq_false_iff.mpr c96
                      subst c96
                      have H1 : ((change_Minus.f a0_0 a0_1 a1_0 a1_1).bind fun bt176 => ((change_Minus.f a0_0 a0_1 a1_0 a1_1).bind fun bt179 => ((change_Join.f kj78 (([(⟨bt179.1, bt179.2⟩ : S38), (⟨a1_0, a1_1⟩ : S38)] : List (S38)))).bind fun bt184 => ((change_Join.f kj78 (([(⟨a0_0, a0_1⟩ : S38), (⟨a1_0, a1_1⟩ : S38)] : List (S38)))).bind fun bt189 => (if (bt184.1 == bt189.1 && (bt184.2 == bt189.2)) = true then ((change_Minus.f bt176.1 bt176.2 a1_0 a1_1).bind fun bt191 => (if (bt191.1 == bt176.1 && (bt191.2 == bt176.2)) = true then ((change_Join.f kj78 (([(⟨a0_0, a0_1⟩ : S38), (⟨a1_0, a1_1⟩ : S38)] : List (S38)))).bind fun bt196 => ((change_Size.f bt196.1 bt196.2).bind fun t198 => ((change_Size.f a1_0 a1_1).bind fun t199 => ((change_Size.f bt176.1 bt176.2).bind fun t200 => (some (t198 == (wrap64 (t199 + t200)))))))) else (some false))) else (some false)))))) = some r := by rw [if_neg (show ¬ (false = true) by decide)] at H; exact H
                      clear H
                      have H := H1
                      clear H1
                      replace H := Option.bind_eq_some_iff.mp H
                      obtain ⟨⟨t176, t177⟩, A970, H⟩ := H
                      replace H : ((change_Minus.f a0_0 a0_1 a1_0 a1_1).bind fun bt179 => ((change_Join.f kj78 (([(⟨bt179.1, bt179.2⟩ : S38), (⟨a1_0, a1_1⟩ : S38)] : List (S38)))).bind fun bt184 => ((change_Join.f kj78 (([(⟨a0_0, a0_1⟩ : S38), (⟨a1_0, a1_1⟩ : S38)] : List (S38)))).bind fun bt189 => (if (bt184.1 == bt189.1 && (bt184.2 == bt189.2)) = true then ((change_Minus.f t176 t177 a1_0 a1_1).bind fun bt191 => (if (bt191.1 == t176 && (bt191.2 == t177)) = true then ((change_Join.f kj78 (([(⟨a0_0, a0_1⟩ : S38), (⟨a1_0, a1_1⟩ : S38)] : List (S38)))).bind fun bt196 => ((change_Size.f bt196.1 bt196.2).bind fun t198 => ((change_Size.f a1_0 a1_1).bind fun t199 => ((change_Size.f t176 t177).bind fun t200 => (some (t198 == (wrap64 (t199 + t200)))))))) else (some false))) else (some false))))) = some r := H
                      have A97 := Aside0.mk A970
                      clear A970
                      replace H := Option.bind_eq_some_iff.mp H
                      obtain ⟨⟨t179, t180⟩, A980, H⟩ := H
                      replace H : ((change_Join.f kj78 (([(⟨t179, t180⟩ : S38), (⟨a1_0, a1_1⟩ : S38)] : List (S38)))).bind fun bt184 => ((change_Join.f kj78 (([(⟨a0_0, a0_1⟩ : S38), (⟨a1_0, a1_1⟩ : S38)] : List (S38)))).bind fun bt189 => (if (bt184.1 == bt189.1 && (bt184.2 == bt189.2)) = true then ((change_Minus.f t176 t177 a1_0 a1_1).bind fun bt191 => (if (bt191.1 == t176 && (bt191.2 == t177)) = true then ((change_Join.f kj78 (([(⟨a0_0, a0_1⟩ : S38), (⟨a1_0, a1_1⟩ : S38)] : List (S38)))).bind fun bt196 => ((change_Size.f bt196.1 bt196.2).bind fun t198 => ((change_Size.f a1_0 a1_1).bind fun t199 => ((change_Size.f t176 t177).bind fun t200 => (some (t198 == (wrap64 (t199 + t200)))))))) else (some false))) else (some false)))) = some r := H
                      have A98 := Aside0.mk A980
                      clear A980
                      obtain ⟨y181, hy181⟩ : ∃ y_ : List (S38), y_ = (([(⟨t179, t180⟩ : S38), (⟨a1_0, a1_1⟩ : S38)] : List (S38))) := ⟨_, rfl⟩
                      replace H : ((change_Join.f kj78 y181).bind fun bt184 => ((change_Join.f kj78 (([(⟨a0_0, a0_1⟩ : S38), (⟨a1_0, a1_1⟩ : S38)] : List (S38)))).bind fun bt189 => (if (bt184.1 == bt189.1 && (bt184.2 == bt189.2)) = true then ((change_Minus.f t176 t177 a1_0 a1_1).bind fun bt191 => (if (bt191.1 == t176 && (bt191.2 == t177)) = true then ((change_Join.f kj78 (([(⟨a0_0, a0_1⟩ : S38), (⟨a1_0, a1_1⟩ : S38)] : List (S38)))).bind fun bt196 => ((change_Size.f bt196.1 bt196.2).bind fun t198 => ((change_Size.f a1_0 a1_1).bind fun t199 => ((change_Size.f t176 t177).bind fun t200 => (some (t198 == (wrap64 (t199 + t200)))))))) else (some false))) else (some false)))) = some r := by first | (rw [hy181]; with_reducible exact H) | (have H2_ := (Option.bind_some _ _).symm.trans H; rw [hy181]; with_reducible exact H2_) | (have H2_ := (Option.bind_some _ _).symm.trans H; with_reducible exact H2_) | with_reducible exact H | (rw [hy181]; exact H) | exact H
                      have Ny181 := Aside0.mk hy181
                      clear hy181
                      replace H := Option.bind_eq_some_iff.mp H
                      obtain ⟨⟨t184, t185⟩, A990, H⟩ := H
                      replace H : ((change_Join.f kj78 (([(⟨a0_0, a0_1⟩ : S38), (⟨a1_0, a1_1⟩ : S38)] : List (S38)))).bind fun bt189 => (if (t184 == bt189.1 && (t185 == bt189.2)) = true then ((change_Minus.f t176 t177 a1_0 a1_1).bind fun bt191 => (if (bt191.1 == t176 && (bt191.2 == t177)) = true then ((change_Join.f kj78 (([(⟨a0_0, a0_1⟩ : S38), (⟨a1_0, a1_1⟩ : S38)] : List (S38)))).bind fun bt196 => ((change_Size.f bt196.1 bt196.2).bind fun t198 => ((change_Size.f a1_0 a1_1).bind fun t199 => ((change_Size.f t176 t177).bind fun t200 => (some (t198 == (wrap64 (t199 + t200)))))))) else (some false))) else (some false))) = some r := H
                      have A99 := Aside0.mk A990
                      clear A990
                      obtain ⟨y186, hy186⟩ : ∃ y_ : List (S38), y_ = (([(⟨a0_0, a0_1⟩ : S38), (⟨a1_0, a1_1⟩ : S38)] : List (S38))) := ⟨_, rfl⟩
                      replace H : ((change_Join.f kj78 y186).bind fun bt189 => (if (t184 == bt189.1 && (t185 == bt189.2)) = true then ((change_Minus.f t176 t177 a1_0 a1_1).bind fun bt191 => (if (bt191.1 == t176 && (bt191.2 == t177)) = true then ((change_Join.f kj78 (([(⟨a0_0, a0_1⟩ : S38), (⟨a1_0, a1_1⟩ : S38)] : List (S38)))).bind fun bt196 => ((change_Size.f bt196.1 bt196.2).bind fun t198 => ((change_Size.f a1_0 a1_1).bind fun t199 => ((change_Size.f t176 t177).bind fun t200 => (some (t198 == (wrap64 (t199 + t200)))))))) else (some false))) else (some false))) = some r := by first | (rw [hy186]; with_reducible exact H) | (have H2_ := (Option.bind_some _ _).symm.trans H; rw [hy186]; with_reducible exact H2_) | (have H2_ := (Option.bind_some _ _).symm.trans H; with_reducible exact H2_) | with_reducible exact H | (rw [hy186]; exact H) | exact H
                      have Ny186 := Aside0.mk hy186
                      clear hy186
                      replace H := Option.bind_eq_some_iff.mp H
                      obtain ⟨⟨t189, t190⟩, A1000, H⟩ := H
                      replace H : (if (t184 == t189 && (t185 == t190)) = true then ((change_Minus.f t176 t177 a1_0 a1_1).bind fun bt191 => (if (bt191.1 == t176 && (bt191.2 == t177)) = true then ((change_Join.f kj78 (([(⟨a0_0, a0_1⟩ : S38), (⟨a1_0, a1_1⟩ : S38)] : List (S38)))).bind fun bt196 => ((change_Size.f bt196.1 bt196.2).bind fun t198 => ((change_Size.f a1_0 a1_1).bind fun t199 => ((change_Size.f t176 t177).bind fun t200 => (some (t198 == (wrap64 (t199 + t200)))))))) else (some false))) else (some false)) = some r := H
                      have A100 := Aside0.mk A1000
                      clear A1000
                      by_cases c101 : (t184 == t189 && (t185 == t190)) = true
                      · rw [if_pos c101] at H
                        have c101b0 : (t184 == t189 && (t185 == t190)) = true := c101
                        (try (have c101b1 : decide (t184 = t189 && (t185 == t190)) = true := by simpa using c101))
                        (try (have c101b2 : (t184 == t189 && (t185 == t190)) = true := by simpa using c101))
                        clear c101
                        replace H := Option.bind_eq_some_iff.mp H
                        obtain ⟨⟨t191, t192⟩, A1020, H⟩ := H
                        replace H : (if (t191 == t176 && (t192 == t177)) = true then ((change_Join.f kj78 (([(⟨a0_0, a0_1⟩ : S38), (⟨a1_0, a1_1⟩ : S38)] : List (S38)))).bind fun bt196 => ((change_Size.f bt196.1 bt196.2).bind fun t198 => ((change_Size.f a1_0 a1_1).bind fun t199 => ((change_Size.f t176 t177).bind fun t200 => (some (t198 == (wrap64 (t199 + t200)))))))) else (some false)) = some r := H
                        have A102 := Aside0.mk A1020
                        clear A1020
                        by_cases c103 : (t191 == t176 && (t192 == t177)) = true
                        · rw [if_pos c103] at H
                          have c103b0 : (t191 == t176 && (t192 == t177)) = true := c103
                          (try (have c103b1 : decide (t191 = t176 && (t192 == t177)) = true := by simpa using c103))
                          (try (have c103b2 : (t191 == t176 && (t192 == t177)) = true := by simpa using c103))
                          clear c103
                          obtain ⟨y193, hy193⟩ : ∃ y_ : List (S38), y_ = (([(⟨a0_0, a0_1⟩ : S38), (⟨a1_0, a1_1⟩ : S38)] : List (S38))) := ⟨_, rfl⟩
                          replace H : ((change_Join.f kj78 y193).bind fun bt196 => ((change_Size.f bt196.1 bt196.2).bind fun t198 => ((change_Size.f a1_0 a1_1).bind fun t199 => ((change_Size.f t176 t177).bind fun t200 => (some (t198 == (wrap64 (t199 + t200)))))))) = some r := by first | (rw [hy193]; with_reducible exact H) | (have H2_ := (Option.bind_some _ _).symm.trans H; rw [hy193]; with_reducible exact H2_) | (have H2_ := (Option.bind_some _ _).symm.trans H; with_reducible exact H2_) | with_reducible exact H | (rw [hy193]; exact H) | exact H
                          have Ny193 := Aside0.mk hy193
                          clear hy193
                          replace H := Option.bind_eq_some_iff.mp H
                          obtain ⟨⟨t196, t197⟩, A1040, H⟩ := H
                          replace H : ((change_Size.f t196 t197).bind fun t198 => ((change_Size.f a1_0 a1_1).bind fun t199 => ((change_Size.f t176 t177).bind fun t200 => (some (t198 == (wrap64 (t199 + t200))))))) = some r := H
                          have A104 := Aside0.mk A1040
                          clear A1040
                          replace H := Option.bind_eq_some_iff.mp H
                          obtain ⟨t198, A1050, H⟩ := H
                          replace H : ((change_Size.f a1_0 a1_1).bind fun t199 => ((change_Size.f t176 t177).bind fun t200 => (some (t198 == (wrap64 (t199 + t200)))))) = some r := H
                          have A105 := Aside0.mk A1050
                          clear A1050
                          replace H := Option.bind_eq_some_iff.mp H
                          obtain ⟨t199, A1060, H⟩ := H
                          replace H : ((change_Size.f t176 t177).bind fun t200 => (some (t198 == (wrap64 (t199 + t200))))) = some r := H
                          have A106 := Aside0.mk A1060
                          clear A1060
                          replace H := Option.bind_eq_some_iff.mp H
                          obtain ⟨t200, A1070, H⟩ := H
                          replace H : (some (t198 == (wrap64 (t199 + t200)))) = some r := H
                          have A107 := Aside0.mk A1070
                          clear A1070
                          obtain rfl := Option.some.inj H
                          have hnb108 := NB138_139.out
                          have hnc108 := NB139_138.out
                          have hnb109 := NB138_140.out
                          have hnc109 := NB140_138.out
                          have hnb110 := NB138_150.out
                          have hnc110 := NB150_138.out
                          have hcz111_0 : wc.cell? ⟨gb138, 0, none⟩ = some (.int .i64 a0_0) := (blk_cell BK138.out 0).trans rfl
                          have hcz111_1 : wc.cell? ⟨gb138, 1, none⟩ = some (.int .i64 a0_1) := (blk_cell BK138.out 1).trans rfl
                          have hfz111_0 := blk_frozen BK138.out 0
                          have hfz111_1 := blk_frozen BK138.out 1
                          have hnb112 := NB139_140.out
                          have hnc112 := NB140_139.out
                          have hnb113 := NB139_150.out
                          have hnc113 := NB150_139.out
                          have hcz114_0 : wc.cell? ⟨gb139, 0, none⟩ = some (.int .i64 a1_0) := (blk_cell BK139.out 0).trans rfl
                          have hcz114_1 : wc.cell? ⟨gb139, 1, none⟩ = some (.int .i64 a1_1) := (blk_cell BK139.out 1).trans rfl
                          have hfz114_0 := blk_frozen BK139.out 0
                          have hfz114_1 := blk_frozen BK139.out 1
                          try go_wp2_with (first | ((with_reducible refine gate_callee (f := 36) rfl ?_); refine goL_ (some 74) Try.func36 #[.agg #[.int .i64 a0_0, .int .i64 a0_1], .agg #[.int .i64 a1_0, .int .i64 a1_1]] ?_; (with_reducible refine (change_Minus.calls a0_0 a0_1 a1_0 a1_1 t176 t177 _ A97.out).mono ?_); rintro e w115 ⟨rfl, hb⟩; refine ⟨_, rfl, ?_⟩; have n0_ := Aside0.mk (blk_below (g := gb138) (o := .cells #[.int .i64 a0_0, .int .i64 a0_1] 38 (0, 0)) blk_ hb); have n1_ := Aside0.mk (blk_below (g := gb139) (o := .cells #[.int .i64 a1_0, .int .i64 a1_1] 38 (0, 0)) blk_ hb); have n2_ := Aside0.mk (blk_below (g := gb140) (o := .cells #[.int .i64 a2_0, .int .i64 a2_1] 38 (0, 0)) blk_ hb); have n3_ := Aside0.mk (blk_below (g := gb150) (o := .cells #[.int .i64 t148, .int .i64 t149] 38 (0, 0)) blk_ hb); have n4_ := Aside0.mk (below_step bel_ hb); clear BK138; clear BK139; clear BK140; clear BK150; clear HB; have BK138 := n0_; have BK139 := n1_; have BK140 := n2_; have BK150 := n3_; have HB := n4_; clear n0_ n1_ n2_ n3_ n4_; (try clear hb); (try clear hb2); (try clear hk); (try clear hi)) | ((with_reducible refine gate_dst (N := 8) rfl ?_); (try (refine gate_guard (by rfl) ?_; dsimp only)); refine box_event ?hg (N := 8) ?hd (cs := #[.int .i64 0, .int .i64 0]) (t := 38) ?hr ?_; (case hd => rfl); (case hg => rfl); (case hr => first | (go_simp; done) | (go_simp; rfl)); intro gb178 hg w116 hbox hb; have n0_ := Aside0.mk (blk_below (g := gb138) (o := .cells #[.int .i64 a0_0, .int .i64 a0_1] 38 (0, 0)) blk_ hb); have n1_ := Aside0.mk (blk_below (g := gb139) (o := .cells #[.int .i64 a1_0, .int .i64 a1_1] 38 (0, 0)) blk_ hb); have n2_ := Aside0.mk (blk_below (g := gb140) (o := .cells #[.int .i64 a2_0, .int .i64 a2_1] 38 (0, 0)) blk_ hb); have n3_ := Aside0.mk (blk_below (g := gb150) (o := .cells #[.int .i64 t148, .int .i64 t149] 38 (0, 0)) blk_ hb); have n4_ := Aside0.mk (below_step bel_ hb); have n5_ := Aside0.mk (hbox); have n6_ := Aside0.mk ((by rw [hg]; exact (below_size bel_) : w.heap.size ≤ gb178)); have n7_ := Aside0.mk ((by rw [hg]; exact (below_size bel_) : w.heap.size ≤ gb178)); have n8_ := Aside0.mk ((by rw [hg]; exact Nat.ne_of_lt (blk_lt (g := gb138) (o := .cells #[.int .i64 a0_0, .int .i64 a0_1] 38 (0, 0)) blk_) : gb138 ≠ gb178)); have n9_ := Aside0.mk ((by rw [hg]; exact Nat.ne_of_gt (blk_lt (g := gb138) (o := .cells #[.int .i64 a0_0, .int .i64 a0_1] 38 (0, 0)) blk_) : gb178 ≠ gb138)); have n10_ := Aside0.mk ((by rw [hg]; exact Nat.ne_of_lt (blk_lt (g := gb139) (o := .cells #[.int .i64 a1_0, .int .i64 a1_1] 38 (0, 0)) blk_) : gb139 ≠ gb178)); have n11_ := Aside0.mk ((by rw [hg]; exact Nat.ne_of_gt (blk_lt (g := gb139) (o := .cells #[.int .i64 a1_0, .int .i64 a1_1] 38 (0, 0)) blk_) : gb178 ≠ gb139)); have n12_ := Aside0.mk ((by rw [hg]; exact Nat.ne_of_lt (blk_lt (g := gb140) (o := .cells #[.int .i64 a2_0, .int .i64 a2_1] 38 (0, 0)) blk_) : gb140 ≠ gb178)); have n13_ := Aside0.mk ((by rw [hg]; exact Nat.ne_of_gt (blk_lt (g := gb140) (o := .cells #[.int .i64 a2_0, .int .i64 a2_1] 38 (0, 0)) blk_) : gb178 ≠ gb140)); have n14_ := Aside0.mk ((by rw [hg]; exact Nat.ne_of_lt (blk_lt (g := gb150) (o := .cells #[.int .i64 t148, .int .i64 t149] 38 (0, 0)) blk_) : gb150 ≠ gb178)); have n15_ := Aside0.mk ((by rw [hg]; exact Nat.ne_of_gt (blk_lt (g := gb150) (o := .cells #[.int .i64 t148, .int .i64 t149] 38 (0, 0)) blk_) : gb178 ≠ gb150)); clear BK138; clear BK139; clear BK140; clear BK150; clear HB; have BK138 := n0_; have BK139 := n1_; have BK140 := n2_; have BK150 := n3_; have HB := n4_; have BK178 := n5_; have GW178 := n6_; have GE178 := n7_; have NB138_178 := n8_; have NB178_138 := n9_; have NB139_178 := n10_; have NB178_139 := n11_; have NB140_178 := n12_; have NB178_140 := n13_; have NB150_178 := n14_; have NB178_150 := n15_; clear n0_ n1_ n2_ n3_ n4_ n5_ n6_ n7_ n8_ n9_ n10_ n11_ n12_ n13_ n14_ n15_; clear hb hbox hg; have hnb117 := NB178_138.out; have hnc117 := NB138_178.out; have hnb118 := NB178_139.out; have hnc118 := NB139_178.out; have hnb119 := NB178_140.out; have hnc119 := NB140_178.out; have hnb120 := NB178_150.out; have hnc120 := NB150_178.out; have hcz121_0 : w116.cell? ⟨gb178, 0, none⟩ = some (.int .i64 0) := (blk_cell BK178.out 0).trans rfl; have hcz121_1 : w116.cell? ⟨gb178, 1, none⟩ = some (.int .i64 0) := (blk_cell BK178.out 1).trans rfl; have hfz121_0 := blk_frozen BK178.out 0; have hfz121_1 := blk_frozen BK178.out 1))
                          have n0_ : Aside0 (((w116.setCell ⟨gb178, 0, none⟩ (.int .i64 t176)).setCell ⟨gb178, 1, none⟩ (.int .i64 t177)).heap[gb138]? = some (.cells #[.int .i64 a0_0, .int .i64 a0_1] 38 (0, 0))) := ⟨by (with_reducible repeat (first | refine blk_drewN ?_ _ | refine blk_drew ?_ | refine blk_alloc ?_ _)); refine blk_far ?_ NB138_178.out _; (with_reducible repeat (first | refine blk_drewN ?_ _ | refine blk_drew ?_ | refine blk_alloc ?_ _)); refine blk_far ?_ NB138_178.out _; (with_reducible repeat (first | refine blk_drewN ?_ _ | refine blk_drew ?_ | refine blk_alloc ?_ _)); exact BK138.out⟩
                          have n1_ : Aside0 (((w116.setCell ⟨gb178, 0, none⟩ (.int .i64 t176)).setCell ⟨gb178, 1, none⟩ (.int .i64 t177)).heap[gb139]? = some (.cells #[.int .i64 a1_0, .int .i64 a1_1] 38 (0, 0))) := ⟨by (with_reducible repeat (first | refine blk_drewN ?_ _ | refine blk_drew ?_ | refine blk_alloc ?_ _)); refine blk_far ?_ NB139_178.out _; (with_reducible repeat (first | refine blk_drewN ?_ _ | refine blk_drew ?_ | refine blk_alloc ?_ _)); refine blk_far ?_ NB139_178.out _; (with_reducible repeat (first | refine blk_drewN ?_ _ | refine blk_drew ?_ | refine blk_alloc ?_ _)); exact BK139.out⟩
                          have n2_ : Aside0 (((w116.setCell ⟨gb178, 0, none⟩ (.int .i64 t176)).setCell ⟨gb178, 1, none⟩ (.int .i64 t177)).heap[gb140]? = some (.cells #[.int .i64 a2_0, .int .i64 a2_1] 38 (0, 0))) := ⟨by (with_reducible repeat (first | refine blk_drewN ?_ _ | refine blk_drew ?_ | refine blk_alloc ?_ _)); refine blk_far ?_ NB140_178.out _; (with_reducible repeat (first | refine blk_drewN ?_ _ | refine blk_drew ?_ | refine blk_alloc ?_ _)); refine blk_far ?_ NB140_178.out _; (with_reducible repeat (first | refine blk_drewN ?_ _ | refine blk_drew ?_ | refine blk_alloc ?_ _)); exact BK140.out⟩
                          have n3_ : Aside0 (((w116.setCell ⟨gb178, 0, none⟩ (.int .i64 t176)).setCell ⟨gb178, 1, none⟩ (.int .i64 t177)).heap[gb150]? = some (.cells #[.int .i64 t148, .int .i64 t149] 38 (0, 0))) := ⟨by (with_reducible repeat (first | refine blk_drewN ?_ _ | refine blk_drew ?_ | refine blk_alloc ?_ _)); refine blk_far ?_ NB150_178.out _; (with_reducible repeat (first | refine blk_drewN ?_ _ | refine blk_drew ?_ | refine blk_alloc ?_ _)); refine blk_far ?_ NB150_178.out _; (with_reducible repeat (first | refine blk_drewN ?_ _ | refine blk_drew ?_ | refine blk_alloc ?_ _)); exact BK150.out⟩
                          have n4_ : Aside0 (((w116.setCell ⟨gb178, 0, none⟩ (.int .i64 t176)).setCell ⟨gb178, 1, none⟩ (.int .i64 t177)).heap[gb178]? = some (.cells #[.int .i64 t176, .int .i64 t177] 38 (0, 0))) := ⟨by (with_reducible repeat (first | refine blk_drewN ?_ _ | refine blk_drew ?_ | refine blk_alloc ?_ _)); refine blk_put (cs := #[.int .i64 t176, .int .i64 0]) ?_ 1 _ rfl; (with_reducible repeat (first | refine blk_drewN ?_ _ | refine blk_drew ?_ | refine blk_alloc ?_ _)); refine blk_put (cs := #[.int .i64 0, .int .i64 0]) ?_ 0 _ rfl; (with_reducible repeat (first | refine blk_drewN ?_ _ | refine blk_drew ?_ | refine blk_alloc ?_ _)); exact BK178.out⟩
                          have n5_ : Aside0 (Below w.heap.size w ((w116.setCell ⟨gb178, 0, none⟩ (.int .i64 t176)).setCell ⟨gb178, 1, none⟩ (.int .i64 t177))) := ⟨bel_⟩
                          (try clear BK138)
                          (try clear BK139)
                          (try clear BK140)
                          (try clear BK150)
                          (try clear BK178)
                          (try clear HB)
                          generalize ((w116.setCell ⟨gb178, 0, none⟩ (.int .i64 t176)).setCell ⟨gb178, 1, none⟩ (.int .i64 t177)) = w122 at n0_ n1_ n2_ n3_ n4_ n5_ ⊢
                          have BK138 := n0_
                          have BK139 := n1_
                          have BK140 := n2_
                          have BK150 := n3_
                          have BK178 := n4_
                          have HB := n5_
                          clear n0_ n1_ n2_ n3_ n4_ n5_
                          have n0_ := Aside0.mk (blk_drew BK138.out)
                          have n1_ := Aside0.mk (blk_drew BK139.out)
                          have n2_ := Aside0.mk (blk_drew BK140.out)
                          have n3_ := Aside0.mk (blk_drew BK150.out)
                          have n4_ := Aside0.mk (blk_drew BK178.out)
                          have n5_ := Aside0.mk (below_drew1 HB.out)
                          clear BK138
                          clear BK139
                          clear BK140
                          clear BK150
                          clear BK178
                          clear HB
                          have BK138 := n0_
                          have BK139 := n1_
                          have BK140 := n2_
                          have BK150 := n3_
                          have BK178 := n4_
                          have HB := n5_
                          clear n0_ n1_ n2_ n3_ n4_ n5_
                          refine start_ (n := 32) (S := fun w' => w'.cell? ⟨gb138, 0, none⟩ = some (.int .i64 a0_0) ∧ w'.cell? ⟨gb138, 1, none⟩ = some (.int .i64 a0_1) ∧ w'.cell? ⟨gb139, 0, none⟩ = some (.int .i64 a1_0) ∧ w'.cell? ⟨gb139, 1, none⟩ = some (.int .i64 a1_1) ∧ w'.cell? ⟨gb178, 0, none⟩ = some (.int .i64 t176) ∧ w'.cell? ⟨gb178, 1, none⟩ = some (.int .i64 t177)) (ds := []) #[false, false, false, false, false, false, false, false, false, false, false, false, false, false, false, false, false, false, false, false, false, false, false, false, false, false, false, false, false, false, false, false] (by kernel_rfl) rfl rfl ⟨(blk_cell BK138.out 0).trans rfl, (blk_cell BK138.out 1).trans rfl, (blk_cell BK139.out 0).trans rfl, (blk_cell BK139.out 1).trans rfl, (blk_cell BK178.out 0).trans rfl, (blk_cell BK178.out 1).trans rfl⟩ (fun hHeld => ?_); refine with_tabW ropewaylaw04_ChangeTurns.tab11 ropewaylaw04_ChangeTurns.bits11 (fun HT_ HW_ => ?_)
                          generalize w122.drew = w123 at BK138 BK139 BK140 BK150 BK178 HB hHeld ⊢
                          refine take_ (i := 0) (N := some 75) (v := ?_) (a' := ?_) #[true, false, false, false, false, false, false, false, false, false, false, false, false, false, false, false, false, false, false, false, false, false, false, false, false, false, false, false, false, false, false, false] rfl rfl (take_ofW HT_.out HW_.out (by kernel_rfl)) (fun _ _ _ h => h) (Or.inl ⟨by rfl, ?_⟩) hHeld ?_ ?_
                          rotate_left
                          · rintro w' ⟨s0, s1, s2, s3, s4, s5⟩
                            go_simp
                            with_reducible rfl
                          rotate_left
                          · simp only [Act.put, List.setIfInBounds_toArray, List.set_cons_zero, List.set_cons_succ, i64_w, i32_w]
                            rfl
                          refine take_ (i := 1) (N := some 76) (v := ?_) (a' := ?_) #[true, true, false, false, false, false, false, false, false, false, false, false, false, false, false, false, false, false, false, false, false, false, false, false, false, false, false, false, false, false, false, false] rfl rfl (take_ofW HT_.out HW_.out (by kernel_rfl)) (fun _ _ _ h => h) (Or.inl ⟨by rfl, ?_⟩) hHeld ?_ ?_
                          rotate_left
                          · rintro w' ⟨s0, s1, s2, s3, s4, s5⟩
                            go_simp
                            with_reducible rfl
                          rotate_left
                          · simp only [Act.put, List.setIfInBounds_toArray, List.set_cons_zero, List.set_cons_succ, i64_w, i32_w]
                            rfl
                          refine take_ (i := 3) (N := some 78) (v := ?_) (a' := ?_) #[true, true, false, true, false, false, false, false, false, false, false, false, false, false, false, false, false, false, false, false, false, false, false, false, false, false, false, false, false, false, false, false] rfl rfl (take_ofW HT_.out HW_.out (by kernel_rfl)) (fun _ _ _ h => h) (Or.inl ⟨by rfl, ?_⟩) hHeld ?_ ?_
                          rotate_left
                          · rintro w' ⟨s0, s1, s2, s3, s4, s5⟩
                            go_simp
                            with_reducible rfl
                          rotate_left
                          · simp only [Act.put, List.setIfInBounds_toArray, List.set_cons_zero, List.set_cons_succ, i64_w, i32_w]
                            rfl
                          refine take_ (i := 6) (N := some 81) (v := ?_) (a' := ?_) #[true, true, false, true, false, false, true, false, false, false, false, false, false, false, false, false, false, false, false, false, false, false, false, false, false, false, false, false, false, false, false, false] rfl rfl (take_ofW HT_.out HW_.out (by kernel_rfl)) (fun _ _ _ h => h) (Or.inl ⟨by rfl, ?_⟩) hHeld ?_ ?_
                          rotate_left
                          · rintro w' ⟨s0, s1, s2, s3, s4, s5⟩
                            go_simp
                            with_reducible rfl
                          rotate_left
                          · simp only [Act.put, List.setIfInBounds_toArray, List.set_cons_zero, List.set_cons_succ, i64_w, i32_w]
                            rfl
                          refine take_ (i := 7) (N := some 82) (v := ?_) (a' := ?_) #[true, true, false, true, false, false, true, true, false, false, false, false, false, false, false, false, false, false, false, false, false, false, false, false, false, false, false, false, false, false, false, false] rfl rfl (take_ofW HT_.out HW_.out (by kernel_rfl)) (fun _ _ _ h => h) (Or.inl ⟨by rfl, ?_⟩) hHeld ?_ ?_
                          rotate_left
                          · rintro w' ⟨s0, s1, s2, s3, s4, s5⟩
                            go_simp
                            with_reducible rfl
                          rotate_left
                          · simp only [Act.put, List.setIfInBounds_toArray, List.set_cons_zero, List.set_cons_succ, i64_w, i32_w]
                            rfl
                          refine join_ (σ := Value × Value) 23 #[true, true, true, true, true, true, true, true, true, false, false, false, false, false, false, false, false, false, false, false, false, false, false, false, false, false, false, false, false, false, false, false] (fun s_ => [(77, .agg #[.int .i64 t179, .int .i64 t180]), (79, s_.1), (80, .agg #[.int .i64 t184, .int .i64 t185]), (83, s_.2)]) (fun s_ w' => (w'.cell? ⟨gb138, 0, none⟩ = some (.int .i64 a0_0) ∧ w'.cell? ⟨gb138, 1, none⟩ = some (.int .i64 a0_1) ∧ w'.cell? ⟨gb139, 0, none⟩ = some (.int .i64 a1_0) ∧ w'.cell? ⟨gb139, 1, none⟩ = some (.int .i64 a1_1) ∧ w'.cell? ⟨gb178, 0, none⟩ = some (.int .i64 t176) ∧ w'.cell? ⟨gb178, 1, none⟩ = some (.int .i64 t177)) ∧ (Kd.R k38 38 w' w.heap.size (fun k_ => some k_ ≠ (s_.2 : Value).ownBlock ∧ k_ ≠ gb138 ∧ k_ ≠ gb139 ∧ k_ ≠ gb140 ∧ k_ ≠ gb150 ∧ k_ ≠ gb178) s_.1 y181) ∧ (Kd.R k38 38 w' w.heap.size (fun k_ => some k_ ≠ (s_.1 : Value).ownBlock ∧ k_ ≠ gb138 ∧ k_ ≠ gb139 ∧ k_ ≠ gb140 ∧ k_ ≠ gb150 ∧ k_ ≠ gb178) s_.2 y186) ∧ (w'.heap[gb138]? = some (.cells #[.int .i64 a0_0, .int .i64 a0_1] 38 (0, 0))) ∧ (w'.heap[gb139]? = some (.cells #[.int .i64 a1_0, .int .i64 a1_1] 38 (0, 0))) ∧ (w'.heap[gb140]? = some (.cells #[.int .i64 a2_0, .int .i64 a2_1] 38 (0, 0))) ∧ (w'.heap[gb150]? = some (.cells #[.int .i64 t148, .int .i64 t149] 38 (0, 0))) ∧ (w'.heap[gb178]? = some (.cells #[.int .i64 t176, .int .i64 t177] 38 (0, 0))) ∧ (Below w.heap.size w w')) ?_ ?_
                          rotate_left
                          · intro hCont
                            refine two_ (i := 2) (j := 8) (Ni := some 77) (Nj := some 83) #[true, true, true, true, false, false, true, true, false, false, false, false, false, false, false, false, false, false, false, false, false, false, false, false, false, false, false, false, false, false, false, false] #[true, true, false, true, false, false, true, true, true, false, false, false, false, false, false, false, false, false, false, false, false, false, false, false, false, false, false, false, false, false, false, false] rfl rfl rfl rfl (two_of HT_.out (by kernel_rfl)) (by decide) (by decide) (fun K hK => ?_) (fun K hK => ?_)
                            · skip
                              refine goes_ Try.func36 (by kernel_rfl) rfl #[.agg #[.int .i64 a0_0, .int .i64 a0_1], .agg #[.int .i64 a1_0, .int .i64 a1_1]] (by rfl) rfl rfl (by (try simp only [List.map_toArray, List.map_cons, List.map_nil]); first | done | rfl | (simp only [List.length_drop, List.length_take]; rfl)) ?_
                              with_reducible refine (change_Minus.calls a0_0 a0_1 a1_0 a1_1 t179 t180 _ A98.out).mono ?_
                              rintro e w124 ⟨rfl, hb⟩
                              refine ⟨_, rfl, ?_⟩
                              have n0_ := Aside0.mk (blk_below (g := gb138) (o := .cells #[.int .i64 a0_0, .int .i64 a0_1] 38 (0, 0)) blk_ hb)
                              have n1_ := Aside0.mk (blk_below (g := gb139) (o := .cells #[.int .i64 a1_0, .int .i64 a1_1] 38 (0, 0)) blk_ hb)
                              have n2_ := Aside0.mk (blk_below (g := gb140) (o := .cells #[.int .i64 a2_0, .int .i64 a2_1] 38 (0, 0)) blk_ hb)
                              have n3_ := Aside0.mk (blk_below (g := gb150) (o := .cells #[.int .i64 t148, .int .i64 t149] 38 (0, 0)) blk_ hb)
                              have n4_ := Aside0.mk (blk_below (g := gb178) (o := .cells #[.int .i64 t176, .int .i64 t177] 38 (0, 0)) blk_ hb)
                              have n5_ := Aside0.mk (below_step bel_ hb)
                              clear BK138
                              clear BK139
                              clear BK140
                              clear BK150
                              clear BK178
                              clear HB
                              have BK138 := n0_
                              have BK139 := n1_
                              have BK140 := n2_
                              have BK150 := n3_
                              have BK178 := n4_
                              have HB := n5_
                              clear n0_ n1_ n2_ n3_ n4_ n5_
                              (try clear hb)
                              (try clear hb2)
                              (try clear hk)
                              (try clear hi)
                              refine hK.out _ _ ⟨(blk_cell BK138.out 0).trans rfl, (blk_cell BK138.out 1).trans rfl, (blk_cell BK139.out 0).trans rfl, (blk_cell BK139.out 1).trans rfl, (blk_cell BK178.out 0).trans rfl, (blk_cell BK178.out 1).trans rfl⟩ (fun hHeld => ?_)
                              clear hK K
                              refine norm_ (a' := ?_) ?_ ?_
                              rotate_left
                              · show Act.put _ (some 77) _ = _
                                simp only [Act.put, List.setIfInBounds_toArray, List.set_cons_zero, List.set_cons_succ, i64_w, i32_w]
                                rfl
                              refine two_ (i := 4) (j := 8) (Ni := some 79) (Nj := some 83) #[true, true, true, true, true, false, true, true, false, false, false, false, false, false, false, false, false, false, false, false, false, false, false, false, false, false, false, false, false, false, false, false] #[true, true, true, true, false, false, true, true, true, false, false, false, false, false, false, false, false, false, false, false, false, false, false, false, false, false, false, false, false, false, false, false] rfl rfl rfl rfl (two_of HT_.out (by kernel_rfl)) (by decide) (by decide) (fun K hK => ?_) (fun K hK => ?_)
                              · skip
                                refine Kd.R_lit_step k38 _ 38 ?hg (N := 79) ?hd (xs := ([(⟨t179, t180⟩ : S38), (⟨a1_0, a1_1⟩ : S38)] : List (S38))) (inner := [.int .i64 t179, .int .i64 t180, .int .i64 a1_0, .int .i64 a1_1]) (ok := fun _ => True) (okp := fun _ => True) ?hr ?hp (fun _ hk => hk) trivial (Below.refl _ _) (Nat.le_refl _) (by simp) ?_; (case hd => rfl); (case hg => rfl); (case hr => first | (go_simp; done) | (go_simp; rfl)); (case hp => exact (Reps.c2 (show Kd.M k38 _ _ _ (⟨t179, t180⟩ : S38) [.int .i64 t179, .int .i64 t180] from (k38_mkM _ _ _ (⟨t179, t180⟩ : S38) )) (Reps.c2 (show Kd.M k38 _ _ _ (⟨a1_0, a1_1⟩ : S38) [.int .i64 a1_0, .int .i64 a1_1] from (k38_mkM _ _ _ (⟨a1_0, a1_1⟩ : S38) )) (Reps.none _ _))))
                                intro v182 w125 ho126 hb hg_ hnew_
                                clear hg_ hnew_
                                (first | rw [← Ny181.out] at ho126 | (simp only [Int.reduceToNat] at ho126; rw [← Ny181.out] at ho126))
                                have n0_ := Aside0.mk (Kd.R_lower (Kd.R_newB (Kd.R_newB (Kd.R_newB (Kd.R_newB (Kd.R_newB ho126 (g := gb138) (o := .cells #[.int .i64 a0_0, .int .i64 a0_1] 38 (0, 0)) blk_) (g := gb139) (o := .cells #[.int .i64 a1_0, .int .i64 a1_1] 38 (0, 0)) blk_) (g := gb140) (o := .cells #[.int .i64 a2_0, .int .i64 a2_1] 38 (0, 0)) blk_) (g := gb150) (o := .cells #[.int .i64 t148, .int .i64 t149] 38 (0, 0)) blk_) (g := gb178) (o := .cells #[.int .i64 t176, .int .i64 t177] 38 (0, 0)) blk_) (below_size bel_))
                                have n1_ := Aside0.mk (blk_below (g := gb138) (o := .cells #[.int .i64 a0_0, .int .i64 a0_1] 38 (0, 0)) blk_ hb)
                                have n2_ := Aside0.mk (blk_below (g := gb139) (o := .cells #[.int .i64 a1_0, .int .i64 a1_1] 38 (0, 0)) blk_ hb)
                                have n3_ := Aside0.mk (blk_below (g := gb140) (o := .cells #[.int .i64 a2_0, .int .i64 a2_1] 38 (0, 0)) blk_ hb)
                                have n4_ := Aside0.mk (blk_below (g := gb150) (o := .cells #[.int .i64 t148, .int .i64 t149] 38 (0, 0)) blk_ hb)
                                have n5_ := Aside0.mk (blk_below (g := gb178) (o := .cells #[.int .i64 t176, .int .i64 t177] 38 (0, 0)) blk_ hb)
                                have n6_ := Aside0.mk (below_step bel_ hb)
                                clear BK138
                                clear BK139
                                clear BK140
                                clear BK150
                                clear BK178
                                clear HB
                                have HO183 := n0_
                                have BK138 := n1_
                                have BK139 := n2_
                                have BK140 := n3_
                                have BK150 := n4_
                                have BK178 := n5_
                                have HB := n6_
                                clear n0_ n1_ n2_ n3_ n4_ n5_ n6_
                                clear hb ho126
                                obtain ⟨Ao127, co127, eo127⟩ := Kd.R_slice HO183.out
                                (first | subst eo127 | (injection eo127 with f1_ f2_ f3_; have f4_ := f1_.symm; have f5_ := f3_.symm; clear f1_ f2_ f3_; subst f4_; subst f5_))
                                refine hK.out _ _ ⟨(blk_cell BK138.out 0).trans rfl, (blk_cell BK138.out 1).trans rfl, (blk_cell BK139.out 0).trans rfl, (blk_cell BK139.out 1).trans rfl, (blk_cell BK178.out 0).trans rfl, (blk_cell BK178.out 1).trans rfl⟩ (fun hHeld => ?_)
                                clear hK K
                                refine norm_ (a' := ?_) ?_ ?_
                                rotate_left
                                · show Act.put _ (some 79) _ = _
                                  simp only [Act.put, List.setIfInBounds_toArray, List.set_cons_zero, List.set_cons_succ, i64_w, i32_w]
                                  rfl
                                refine two_ (i := 5) (j := 8) (Ni := some 80) (Nj := some 83) #[true, true, true, true, true, true, true, true, false, false, false, false, false, false, false, false, false, false, false, false, false, false, false, false, false, false, false, false, false, false, false, false] #[true, true, true, true, true, false, true, true, true, false, false, false, false, false, false, false, false, false, false, false, false, false, false, false, false, false, false, false, false, false, false, false] rfl rfl rfl rfl (two_of HT_.out (by kernel_rfl)) (by decide) (by decide) (fun K hK => ?_) (fun K hK => ?_)
                                · skip
                                  refine goes_ Try.func26 (by kernel_rfl) rfl #[.slice Ao127 y181.length co127] (by rfl) rfl rfl (by (try simp only [List.map_toArray, List.map_cons, List.map_nil]); first | done | rfl | (simp only [List.length_drop, List.length_take]; rfl)) ?_
                                  with_reducible refine (change_Join.calls kj78 _ _ y181 t184 t185 _ ?side1 ?side2 A99.out).mono ?_
                                  (case side1 => repeat (first | exact (Kd.R_reads' HO183.out).2.2 | (with_reducible refine Kd.C_alloc ?_ _) | (with_reducible refine Kd.C_drewN ?_ _) | (with_reducible refine Kd.C_drew ?_)))
                                  (case side2 => exact (Kd.R_reads' HO183.out).2.1)
                                  rintro e w128 ⟨rfl, hb⟩
                                  refine ⟨_, rfl, ?_⟩
                                  have n0_ := Aside0.mk (Kd.R_below (by (with_reducible repeat (first | apply Kd.R_alloc | apply Kd.R_drewN | apply Kd.R_drew)); exact HO183.out) hb)
                                  have n1_ := Aside0.mk (blk_below (g := gb138) (o := .cells #[.int .i64 a0_0, .int .i64 a0_1] 38 (0, 0)) blk_ hb)
                                  have n2_ := Aside0.mk (blk_below (g := gb139) (o := .cells #[.int .i64 a1_0, .int .i64 a1_1] 38 (0, 0)) blk_ hb)
                                  have n3_ := Aside0.mk (blk_below (g := gb140) (o := .cells #[.int .i64 a2_0, .int .i64 a2_1] 38 (0, 0)) blk_ hb)
                                  have n4_ := Aside0.mk (blk_below (g := gb150) (o := .cells #[.int .i64 t148, .int .i64 t149] 38 (0, 0)) blk_ hb)
                                  have n5_ := Aside0.mk (blk_below (g := gb178) (o := .cells #[.int .i64 t176, .int .i64 t177] 38 (0, 0)) blk_ hb)
                                  have n6_ := Aside0.mk (below_step bel_ hb)
                                  clear HO183
                                  clear BK138
                                  clear BK139
                                  clear BK140
                                  clear BK150
                                  clear BK178
                                  clear HB
                                  have HO183 := n0_
                                  have BK138 := n1_
                                  have BK139 := n2_
                                  have BK140 := n3_
                                  have BK150 := n4_
                                  have BK178 := n5_
                                  have HB := n6_
                                  clear n0_ n1_ n2_ n3_ n4_ n5_ n6_
                                  (try clear hb)
                                  (try clear hb2)
                                  (try clear hk)
                                  (try clear hi)
                                  refine hK.out _ _ ⟨(blk_cell BK138.out 0).trans rfl, (blk_cell BK138.out 1).trans rfl, (blk_cell BK139.out 0).trans rfl, (blk_cell BK139.out 1).trans rfl, (blk_cell BK178.out 0).trans rfl, (blk_cell BK178.out 1).trans rfl⟩ (fun hHeld => ?_)
                                  clear hK K
                                  refine norm_ (a' := ?_) ?_ ?_
                                  rotate_left
                                  · show Act.put _ (some 80) _ = _
                                    simp only [Act.put, List.setIfInBounds_toArray, List.set_cons_zero, List.set_cons_succ, i64_w, i32_w]
                                    rfl
                                  refine one_ (i := 8) (N := some 83) #[true, true, true, true, true, true, true, true, true, false, false, false, false, false, false, false, false, false, false, false, false, false, false, false, false, false, false, false, false, false, false, false] rfl rfl (one_of HT_.out (by kernel_rfl)) (by decide) (fun K hK => ?_)
                                  refine Kd.R_lit_step k38 _ 38 ?hg (N := 83) ?hd (xs := ([(⟨a0_0, a0_1⟩ : S38), (⟨a1_0, a1_1⟩ : S38)] : List (S38))) (inner := [.int .i64 a0_0, .int .i64 a0_1, .int .i64 a1_0, .int .i64 a1_1]) (ok := fun _ => True) (okp := fun _ => True) ?hr ?hp (fun _ hk => hk) trivial (Below.refl _ _) (Nat.le_refl _) (by simp) ?_; (case hd => rfl); (case hg => rfl); (case hr => first | (go_simp; done) | (go_simp; rfl)); (case hp => exact (Reps.c2 (show Kd.M k38 _ _ _ (⟨a0_0, a0_1⟩ : S38) [.int .i64 a0_0, .int .i64 a0_1] from (k38_mkM _ _ _ (⟨a0_0, a0_1⟩ : S38) )) (Reps.c2 (show Kd.M k38 _ _ _ (⟨a1_0, a1_1⟩ : S38) [.int .i64 a1_0, .int .i64 a1_1] from (k38_mkM _ _ _ (⟨a1_0, a1_1⟩ : S38) )) (Reps.none _ _))))
                                  intro v187 w129 ho130 hb hg_ hnew_
                                  clear hg_ hnew_
                                  (first | rw [← Ny186.out] at ho130 | (simp only [Int.reduceToNat] at ho130; rw [← Ny186.out] at ho130))
                                  have n0_ := Aside0.mk (Kd.R_elder' (by (with_reducible repeat (first | apply Kd.R_alloc | apply Kd.R_drewN | apply Kd.R_drew)); exact HO183.out) (Kd.R_base ho130) hb)
                                  have n1_ := Aside0.mk (Kd.R_lower (Kd.R_newB (Kd.R_newB (Kd.R_newB (Kd.R_newB (Kd.R_newB (Kd.R_new' ho130 (Kd.R_lt (by (with_reducible repeat (first | apply Kd.R_alloc | apply Kd.R_drewN | apply Kd.R_drew)); exact HO183.out))) (g := gb138) (o := .cells #[.int .i64 a0_0, .int .i64 a0_1] 38 (0, 0)) blk_) (g := gb139) (o := .cells #[.int .i64 a1_0, .int .i64 a1_1] 38 (0, 0)) blk_) (g := gb140) (o := .cells #[.int .i64 a2_0, .int .i64 a2_1] 38 (0, 0)) blk_) (g := gb150) (o := .cells #[.int .i64 t148, .int .i64 t149] 38 (0, 0)) blk_) (g := gb178) (o := .cells #[.int .i64 t176, .int .i64 t177] 38 (0, 0)) blk_) (below_size bel_))
                                  have n2_ := Aside0.mk (blk_below (g := gb138) (o := .cells #[.int .i64 a0_0, .int .i64 a0_1] 38 (0, 0)) blk_ hb)
                                  have n3_ := Aside0.mk (blk_below (g := gb139) (o := .cells #[.int .i64 a1_0, .int .i64 a1_1] 38 (0, 0)) blk_ hb)
                                  have n4_ := Aside0.mk (blk_below (g := gb140) (o := .cells #[.int .i64 a2_0, .int .i64 a2_1] 38 (0, 0)) blk_ hb)
                                  have n5_ := Aside0.mk (blk_below (g := gb150) (o := .cells #[.int .i64 t148, .int .i64 t149] 38 (0, 0)) blk_ hb)
                                  have n6_ := Aside0.mk (blk_below (g := gb178) (o := .cells #[.int .i64 t176, .int .i64 t177] 38 (0, 0)) blk_ hb)
                                  have n7_ := Aside0.mk (below_step bel_ hb)
                                  clear HO183
                                  clear BK138
                                  clear BK139
                                  clear BK140
                                  clear BK150
                                  clear BK178
                                  clear HB
                                  have HO183 := n0_
                                  have HO188 := n1_
                                  have BK138 := n2_
                                  have BK139 := n3_
                                  have BK140 := n4_
                                  have BK150 := n5_
                                  have BK178 := n6_
                                  have HB := n7_
                                  clear n0_ n1_ n2_ n3_ n4_ n5_ n6_ n7_
                                  clear hb ho130
                                  refine hK.out _ _ ⟨(blk_cell BK138.out 0).trans rfl, (blk_cell BK138.out 1).trans rfl, (blk_cell BK139.out 0).trans rfl, (blk_cell BK139.out 1).trans rfl, (blk_cell BK178.out 0).trans rfl, (blk_cell BK178.out 1).trans rfl⟩ (fun hHeld => ?_)
                                  clear hK K
                                  refine norm_ (a' := ?_) ?_ ?_
                                  rotate_left
                                  · show Act.put _ (some 83) _ = _
                                    simp only [Act.put, List.setIfInBounds_toArray, List.set_cons_zero, List.set_cons_succ, i64_w, i32_w]
                                    rfl
                                  exact norm_ (by simp only [putAll, Act.put, List.setIfInBounds_toArray, List.set_cons_zero, List.set_cons_succ]) (hCont (.slice Ao127 y181.length co127, v187) _ ⟨hHeld, (by (with_reducible repeat (first | apply Kd.R_alloc | apply Kd.R_drewN | apply Kd.R_drew)); exact Kd.R_mono HO183.out (fun _ hk => ⟨hk.2, ⟨hk.1.1.1.1.1.2, ⟨hk.1.1.1.1.2, ⟨hk.1.1.1.2, ⟨hk.1.1.2, hk.1.2⟩⟩⟩⟩⟩)), (by (with_reducible repeat (first | apply Kd.R_alloc | apply Kd.R_drewN | apply Kd.R_drew)); exact Kd.R_mono HO188.out (fun _ hk => ⟨hk.1.1.1.1.1.2, ⟨hk.1.1.1.1.2, ⟨hk.1.1.1.2, ⟨hk.1.1.2, ⟨hk.1.2, hk.2⟩⟩⟩⟩⟩)), blk_, blk_, blk_, blk_, blk_, bel_⟩)
                                · skip
                                  refine Kd.R_lit_step k38 _ 38 ?hg (N := 83) ?hd (xs := ([(⟨a0_0, a0_1⟩ : S38), (⟨a1_0, a1_1⟩ : S38)] : List (S38))) (inner := [.int .i64 a0_0, .int .i64 a0_1, .int .i64 a1_0, .int .i64 a1_1]) (ok := fun _ => True) (okp := fun _ => True) ?hr ?hp (fun _ hk => hk) trivial (Below.refl _ _) (Nat.le_refl _) (by simp) ?_; (case hd => rfl); (case hg => rfl); (case hr => first | (go_simp; done) | (go_simp; rfl)); (case hp => exact (Reps.c2 (show Kd.M k38 _ _ _ (⟨a0_0, a0_1⟩ : S38) [.int .i64 a0_0, .int .i64 a0_1] from (k38_mkM _ _ _ (⟨a0_0, a0_1⟩ : S38) )) (Reps.c2 (show Kd.M k38 _ _ _ (⟨a1_0, a1_1⟩ : S38) [.int .i64 a1_0, .int .i64 a1_1] from (k38_mkM _ _ _ (⟨a1_0, a1_1⟩ : S38) )) (Reps.none _ _))))
                                  intro v187 w127 ho128 hb hg_ hnew_
                                  clear hg_ hnew_
                                  (first | rw [← Ny186.out] at ho128 | (simp only [Int.reduceToNat] at ho128; rw [← Ny186.out] at ho128))
                                  have n0_ := Aside0.mk (Kd.R_elder' (by (with_reducible repeat (first | apply Kd.R_alloc | apply Kd.R_drewN | apply Kd.R_drew)); exact HO183.out) (Kd.R_base ho128) hb)
                                  have n1_ := Aside0.mk (Kd.R_lower (Kd.R_newB (Kd.R_newB (Kd.R_newB (Kd.R_newB (Kd.R_newB (Kd.R_new' ho128 (Kd.R_lt (by (with_reducible repeat (first | apply Kd.R_alloc | apply Kd.R_drewN | apply Kd.R_drew)); exact HO183.out))) (g := gb138) (o := .cells #[.int .i64 a0_0, .int .i64 a0_1] 38 (0, 0)) blk_) (g := gb139) (o := .cells #[.int .i64 a1_0, .int .i64 a1_1] 38 (0, 0)) blk_) (g := gb140) (o := .cells #[.int .i64 a2_0, .int .i64 a2_1] 38 (0, 0)) blk_) (g := gb150) (o := .cells #[.int .i64 t148, .int .i64 t149] 38 (0, 0)) blk_) (g := gb178) (o := .cells #[.int .i64 t176, .int .i64 t177] 38 (0, 0)) blk_) (below_size bel_))
                                  have n2_ := Aside0.mk (blk_below (g := gb138) (o := .cells #[.int .i64 a0_0, .int .i64 a0_1] 38 (0, 0)) blk_ hb)
                                  have n3_ := Aside0.mk (blk_below (g := gb139) (o := .cells #[.int .i64 a1_0, .int .i64 a1_1] 38 (0, 0)) blk_ hb)
                                  have n4_ := Aside0.mk (blk_below (g := gb140) (o := .cells #[.int .i64 a2_0, .int .i64 a2_1] 38 (0, 0)) blk_ hb)
                                  have n5_ := Aside0.mk (blk_below (g := gb150) (o := .cells #[.int .i64 t148, .int .i64 t149] 38 (0, 0)) blk_ hb)
                                  have n6_ := Aside0.mk (blk_below (g := gb178) (o := .cells #[.int .i64 t176, .int .i64 t177] 38 (0, 0)) blk_ hb)
                                  have n7_ := Aside0.mk (below_step bel_ hb)
                                  clear HO183
                                  clear BK138
                                  clear BK139
                                  clear BK140
                                  clear BK150
                                  clear BK178
                                  clear HB
                                  have HO183 := n0_
                                  have HO188 := n1_
                                  have BK138 := n2_
                                  have BK139 := n3_
                                  have BK140 := n4_
                                  have BK150 := n5_
                                  have BK178 := n6_
                                  have HB := n7_
                                  clear n0_ n1_ n2_ n3_ n4_ n5_ n6_ n7_
                                  clear hb ho128
                                  obtain ⟨Ao129, co129, eo129⟩ := Kd.R_slice HO183.out
                                  (first | subst eo129 | (injection eo129 with f1_ f2_ f3_; have f4_ := f1_.symm; have f5_ := f3_.symm; clear f1_ f2_ f3_; subst f4_; subst f5_))
                                  refine hK.out _ _ ⟨(blk_cell BK138.out 0).trans rfl, (blk_cell BK138.out 1).trans rfl, (blk_cell BK139.out 0).trans rfl, (blk_cell BK139.out 1).trans rfl, (blk_cell BK178.out 0).trans rfl, (blk_cell BK178.out 1).trans rfl⟩ (fun hHeld => ?_)
                                  clear hK K
                                  refine norm_ (a' := ?_) ?_ ?_
                                  rotate_left
                                  · show Act.put _ (some 83) _ = _
                                    simp only [Act.put, List.setIfInBounds_toArray, List.set_cons_zero, List.set_cons_succ, i64_w, i32_w]
                                    rfl
                                  refine one_ (i := 5) (N := some 80) #[true, true, true, true, true, true, true, true, true, false, false, false, false, false, false, false, false, false, false, false, false, false, false, false, false, false, false, false, false, false, false, false] rfl rfl (one_of HT_.out (by kernel_rfl)) (by decide) (fun K hK => ?_)
                                  refine goes_ Try.func26 (by kernel_rfl) rfl #[.slice Ao129 y181.length co129] (by rfl) rfl rfl (by (try simp only [List.map_toArray, List.map_cons, List.map_nil]); first | done | rfl | (simp only [List.length_drop, List.length_take]; rfl)) ?_
                                  with_reducible refine (change_Join.calls kj78 _ _ y181 t184 t185 _ ?side1 ?side2 A99.out).mono ?_
                                  (case side1 => repeat (first | exact (Kd.R_reads' HO183.out).2.2 | (with_reducible refine Kd.C_alloc ?_ _) | (with_reducible refine Kd.C_drewN ?_ _) | (with_reducible refine Kd.C_drew ?_)))
                                  (case side2 => exact (Kd.R_reads' HO183.out).2.1)
                                  rintro e w130 ⟨rfl, hb⟩
                                  refine ⟨_, rfl, ?_⟩
                                  have n0_ := Aside0.mk (Kd.R_below (by (with_reducible repeat (first | apply Kd.R_alloc | apply Kd.R_drewN | apply Kd.R_drew)); exact HO183.out) hb)
                                  have n1_ := Aside0.mk (Kd.R_below (by (with_reducible repeat (first | apply Kd.R_alloc | apply Kd.R_drewN | apply Kd.R_drew)); exact HO188.out) hb)
                                  have n2_ := Aside0.mk (blk_below (g := gb138) (o := .cells #[.int .i64 a0_0, .int .i64 a0_1] 38 (0, 0)) blk_ hb)
                                  have n3_ := Aside0.mk (blk_below (g := gb139) (o := .cells #[.int .i64 a1_0, .int .i64 a1_1] 38 (0, 0)) blk_ hb)
                                  have n4_ := Aside0.mk (blk_below (g := gb140) (o := .cells #[.int .i64 a2_0, .int .i64 a2_1] 38 (0, 0)) blk_ hb)
                                  have n5_ := Aside0.mk (blk_below (g := gb150) (o := .cells #[.int .i64 t148, .int .i64 t149] 38 (0, 0)) blk_ hb)
                                  have n6_ := Aside0.mk (blk_below (g := gb178) (o := .cells #[.int .i64 t176, .int .i64 t177] 38 (0, 0)) blk_ hb)
                                  have n7_ := Aside0.mk (below_step bel_ hb)
                                  clear HO183
                                  clear HO188
                                  clear BK138
                                  clear BK139
                                  clear BK140
                                  clear BK150
                                  clear BK178
                                  clear HB
                                  have HO183 := n0_
                                  have HO188 := n1_
                                  have BK138 := n2_
                                  have BK139 := n3_
                                  have BK140 := n4_
                                  have BK150 := n5_
                                  have BK178 := n6_
                                  have HB := n7_
                                  clear n0_ n1_ n2_ n3_ n4_ n5_ n6_ n7_
                                  (try clear hb)
                                  (try clear hb2)
                                  (try clear hk)
                                  (try clear hi)
                                  refine hK.out _ _ ⟨(blk_cell BK138.out 0).trans rfl, (blk_cell BK138.out 1).trans rfl, (blk_cell BK139.out 0).trans rfl, (blk_cell BK139.out 1).trans rfl, (blk_cell BK178.out 0).trans rfl, (blk_cell BK178.out 1).trans rfl⟩ (fun hHeld => ?_)
                                  clear hK K
                                  refine norm_ (a' := ?_) ?_ ?_
                                  rotate_left
                                  · show Act.put _ (some 80) _ = _
                                    simp only [Act.put, List.setIfInBounds_toArray, List.set_cons_zero, List.set_cons_succ, i64_w, i32_w]
                                    rfl
                                  exact norm_ (by simp only [putAll, Act.put, List.setIfInBounds_toArray, List.set_cons_zero, List.set_cons_succ]) (hCont (.slice Ao129 y181.length co129, v187) _ ⟨hHeld, (by (with_reducible repeat (first | apply Kd.R_alloc | apply Kd.R_drewN | apply Kd.R_drew)); exact Kd.R_mono HO183.out (fun _ hk => ⟨hk.2, ⟨hk.1.1.1.1.1.2, ⟨hk.1.1.1.1.2, ⟨hk.1.1.1.2, ⟨hk.1.1.2, hk.1.2⟩⟩⟩⟩⟩)), (by (with_reducible repeat (first | apply Kd.R_alloc | apply Kd.R_drewN | apply Kd.R_drew)); exact Kd.R_mono HO188.out (fun _ hk => ⟨hk.1.1.1.1.1.2, ⟨hk.1.1.1.1.2, ⟨hk.1.1.1.2, ⟨hk.1.1.2, ⟨hk.1.2, hk.2⟩⟩⟩⟩⟩)), blk_, blk_, blk_, blk_, blk_, bel_⟩)
                              · skip
                                refine Kd.R_lit_step k38 _ 38 ?hg (N := 83) ?hd (xs := ([(⟨a0_0, a0_1⟩ : S38), (⟨a1_0, a1_1⟩ : S38)] : List (S38))) (inner := [.int .i64 a0_0, .int .i64 a0_1, .int .i64 a1_0, .int .i64 a1_1]) (ok := fun _ => True) (okp := fun _ => True) ?hr ?hp (fun _ hk => hk) trivial (Below.refl _ _) (Nat.le_refl _) (by simp) ?_; (case hd => rfl); (case hg => rfl); (case hr => first | (go_simp; done) | (go_simp; rfl)); (case hp => exact (Reps.c2 (show Kd.M k38 _ _ _ (⟨a0_0, a0_1⟩ : S38) [.int .i64 a0_0, .int .i64 a0_1] from (k38_mkM _ _ _ (⟨a0_0, a0_1⟩ : S38) )) (Reps.c2 (show Kd.M k38 _ _ _ (⟨a1_0, a1_1⟩ : S38) [.int .i64 a1_0, .int .i64 a1_1] from (k38_mkM _ _ _ (⟨a1_0, a1_1⟩ : S38) )) (Reps.none _ _))))
                                intro v187 w125 ho126 hb hg_ hnew_
                                clear hg_ hnew_
                                (first | rw [← Ny186.out] at ho126 | (simp only [Int.reduceToNat] at ho126; rw [← Ny186.out] at ho126))
                                have n0_ := Aside0.mk (Kd.R_lower (Kd.R_newB (Kd.R_newB (Kd.R_newB (Kd.R_newB (Kd.R_newB ho126 (g := gb138) (o := .cells #[.int .i64 a0_0, .int .i64 a0_1] 38 (0, 0)) blk_) (g := gb139) (o := .cells #[.int .i64 a1_0, .int .i64 a1_1] 38 (0, 0)) blk_) (g := gb140) (o := .cells #[.int .i64 a2_0, .int .i64 a2_1] 38 (0, 0)) blk_) (g := gb150) (o := .cells #[.int .i64 t148, .int .i64 t149] 38 (0, 0)) blk_) (g := gb178) (o := .cells #[.int .i64 t176, .int .i64 t177] 38 (0, 0)) blk_) (below_size bel_))
                                have n1_ := Aside0.mk (blk_below (g := gb138) (o := .cells #[.int .i64 a0_0, .int .i64 a0_1] 38 (0, 0)) blk_ hb)
                                have n2_ := Aside0.mk (blk_below (g := gb139) (o := .cells #[.int .i64 a1_0, .int .i64 a1_1] 38 (0, 0)) blk_ hb)
                                have n3_ := Aside0.mk (blk_below (g := gb140) (o := .cells #[.int .i64 a2_0, .int .i64 a2_1] 38 (0, 0)) blk_ hb)
                                have n4_ := Aside0.mk (blk_below (g := gb150) (o := .cells #[.int .i64 t148, .int .i64 t149] 38 (0, 0)) blk_ hb)
                                have n5_ := Aside0.mk (blk_below (g := gb178) (o := .cells #[.int .i64 t176, .int .i64 t177] 38 (0, 0)) blk_ hb)
                                have n6_ := Aside0.mk (below_step bel_ hb)
                                clear BK138
                                clear BK139
                                clear BK140
                                clear BK150
                                clear BK178
                                clear HB
                                have HO188 := n0_
                                have BK138 := n1_
                                have BK139 := n2_
                                have BK140 := n3_
                                have BK150 := n4_
                                have BK178 := n5_
                                have HB := n6_
                                clear n0_ n1_ n2_ n3_ n4_ n5_ n6_
                                clear hb ho126
                                refine hK.out _ _ ⟨(blk_cell BK138.out 0).trans rfl, (blk_cell BK138.out 1).trans rfl, (blk_cell BK139.out 0).trans rfl, (blk_cell BK139.out 1).trans rfl, (blk_cell BK178.out 0).trans rfl, (blk_cell BK178.out 1).trans rfl⟩ (fun hHeld => ?_)
                                clear hK K
                                refine norm_ (a' := ?_) ?_ ?_
                                rotate_left
                                · show Act.put _ (some 83) _ = _
                                  simp only [Act.put, List.setIfInBounds_toArray, List.set_cons_zero, List.set_cons_succ, i64_w, i32_w]
                                  rfl
                                refine one_ (i := 4) (N := some 79) #[true, true, true, true, true, false, true, true, true, false, false, false, false, false, false, false, false, false, false, false, false, false, false, false, false, false, false, false, false, false, false, false] rfl rfl (one_of HT_.out (by kernel_rfl)) (by decide) (fun K hK => ?_)
                                refine Kd.R_lit_step k38 _ 38 ?hg (N := 79) ?hd (xs := ([(⟨t179, t180⟩ : S38), (⟨a1_0, a1_1⟩ : S38)] : List (S38))) (inner := [.int .i64 t179, .int .i64 t180, .int .i64 a1_0, .int .i64 a1_1]) (ok := fun _ => True) (okp := fun _ => True) ?hr ?hp (fun _ hk => hk) trivial (Below.refl _ _) (Nat.le_refl _) (by simp) ?_; (case hd => rfl); (case hg => rfl); (case hr => first | (go_simp; done) | (go_simp; rfl)); (case hp => exact (Reps.c2 (show Kd.M k38 _ _ _ (⟨t179, t180⟩ : S38) [.int .i64 t179, .int .i64 t180] from (k38_mkM _ _ _ (⟨t179, t180⟩ : S38) )) (Reps.c2 (show Kd.M k38 _ _ _ (⟨a1_0, a1_1⟩ : S38) [.int .i64 a1_0, .int .i64 a1_1] from (k38_mkM _ _ _ (⟨a1_0, a1_1⟩ : S38) )) (Reps.none _ _))))
                                intro v182 w127 ho128 hb hg_ hnew_
                                clear hg_ hnew_
                                (first | rw [← Ny181.out] at ho128 | (simp only [Int.reduceToNat] at ho128; rw [← Ny181.out] at ho128))
                                have n0_ := Aside0.mk (Kd.R_elder' (by (with_reducible repeat (first | apply Kd.R_alloc | apply Kd.R_drewN | apply Kd.R_drew)); exact HO188.out) (Kd.R_base ho128) hb)
                                have n1_ := Aside0.mk (Kd.R_lower (Kd.R_newB (Kd.R_newB (Kd.R_newB (Kd.R_newB (Kd.R_newB (Kd.R_new' ho128 (Kd.R_lt (by (with_reducible repeat (first | apply Kd.R_alloc | apply Kd.R_drewN | apply Kd.R_drew)); exact HO188.out))) (g := gb138) (o := .cells #[.int .i64 a0_0, .int .i64 a0_1] 38 (0, 0)) blk_) (g := gb139) (o := .cells #[.int .i64 a1_0, .int .i64 a1_1] 38 (0, 0)) blk_) (g := gb140) (o := .cells #[.int .i64 a2_0, .int .i64 a2_1] 38 (0, 0)) blk_) (g := gb150) (o := .cells #[.int .i64 t148, .int .i64 t149] 38 (0, 0)) blk_) (g := gb178) (o := .cells #[.int .i64 t176, .int .i64 t177] 38 (0, 0)) blk_) (below_size bel_))
                                have n2_ := Aside0.mk (blk_below (g := gb138) (o := .cells #[.int .i64 a0_0, .int .i64 a0_1] 38 (0, 0)) blk_ hb)
                                have n3_ := Aside0.mk (blk_below (g := gb139) (o := .cells #[.int .i64 a1_0, .int .i64 a1_1] 38 (0, 0)) blk_ hb)
                                have n4_ := Aside0.mk (blk_below (g := gb140) (o := .cells #[.int .i64 a2_0, .int .i64 a2_1] 38 (0, 0)) blk_ hb)
                                have n5_ := Aside0.mk (blk_below (g := gb150) (o := .cells #[.int .i64 t148, .int .i64 t149] 38 (0, 0)) blk_ hb)
                                have n6_ := Aside0.mk (blk_below (g := gb178) (o := .cells #[.int .i64 t176, .int .i64 t177] 38 (0, 0)) blk_ hb)
                                have n7_ := Aside0.mk (below_step bel_ hb)
                                clear HO188
                                clear BK138
                                clear BK139
                                clear BK140
                                clear BK150
                                clear BK178
                                clear HB
                                have HO188 := n0_
                                have HO183 := n1_
                                have BK138 := n2_
                                have BK139 := n3_
                                have BK140 := n4_
                                have BK150 := n5_
                                have BK178 := n6_
                                have HB := n7_
                                clear n0_ n1_ n2_ n3_ n4_ n5_ n6_ n7_
                                clear hb ho128
                                obtain ⟨Ao129, co129, eo129⟩ := Kd.R_slice HO183.out
                                (first | subst eo129 | (injection eo129 with f1_ f2_ f3_; have f4_ := f1_.symm; have f5_ := f3_.symm; clear f1_ f2_ f3_; subst f4_; subst f5_))
                                refine hK.out _ _ ⟨(blk_cell BK138.out 0).trans rfl, (blk_cell BK138.out 1).trans rfl, (blk_cell BK139.out 0).trans rfl, (blk_cell BK139.out 1).trans rfl, (blk_cell BK178.out 0).trans rfl, (blk_cell BK178.out 1).trans rfl⟩ (fun hHeld => ?_)
                                clear hK K
                                refine norm_ (a' := ?_) ?_ ?_
                                rotate_left
                                · show Act.put _ (some 79) _ = _
                                  simp only [Act.put, List.setIfInBounds_toArray, List.set_cons_zero, List.set_cons_succ, i64_w, i32_w]
                                  rfl
                                refine one_ (i := 5) (N := some 80) #[true, true, true, true, true, true, true, true, true, false, false, false, false, false, false, false, false, false, false, false, false, false, false, false, false, false, false, false, false, false, false, false] rfl rfl (one_of HT_.out (by kernel_rfl)) (by decide) (fun K hK => ?_)
                                refine goes_ Try.func26 (by kernel_rfl) rfl #[.slice Ao129 y181.length co129] (by rfl) rfl rfl (by (try simp only [List.map_toArray, List.map_cons, List.map_nil]); first | done | rfl | (simp only [List.length_drop, List.length_take]; rfl)) ?_
                                with_reducible refine (change_Join.calls kj78 _ _ y181 t184 t185 _ ?side1 ?side2 A99.out).mono ?_
                                (case side1 => repeat (first | exact (Kd.R_reads' HO183.out).2.2 | (with_reducible refine Kd.C_alloc ?_ _) | (with_reducible refine Kd.C_drewN ?_ _) | (with_reducible refine Kd.C_drew ?_)))
                                (case side2 => exact (Kd.R_reads' HO183.out).2.1)
                                rintro e w130 ⟨rfl, hb⟩
                                refine ⟨_, rfl, ?_⟩
                                have n0_ := Aside0.mk (Kd.R_below (by (with_reducible repeat (first | apply Kd.R_alloc | apply Kd.R_drewN | apply Kd.R_drew)); exact HO188.out) hb)
                                have n1_ := Aside0.mk (Kd.R_below (by (with_reducible repeat (first | apply Kd.R_alloc | apply Kd.R_drewN | apply Kd.R_drew)); exact HO183.out) hb)
                                have n2_ := Aside0.mk (blk_below (g := gb138) (o := .cells #[.int .i64 a0_0, .int .i64 a0_1] 38 (0, 0)) blk_ hb)
                                have n3_ := Aside0.mk (blk_below (g := gb139) (o := .cells #[.int .i64 a1_0, .int .i64 a1_1] 38 (0, 0)) blk_ hb)
                                have n4_ := Aside0.mk (blk_below (g := gb140) (o := .cells #[.int .i64 a2_0, .int .i64 a2_1] 38 (0, 0)) blk_ hb)
                                have n5_ := Aside0.mk (blk_below (g := gb150) (o := .cells #[.int .i64 t148, .int .i64 t149] 38 (0, 0)) blk_ hb)
                                have n6_ := Aside0.mk (blk_below (g := gb178) (o := .cells #[.int .i64 t176, .int .i64 t177] 38 (0, 0)) blk_ hb)
                                have n7_ := Aside0.mk (below_step bel_ hb)
                                clear HO188
                                clear HO183
                                clear BK138
                                clear BK139
                                clear BK140
                                clear BK150
                                clear BK178
                                clear HB
                                have HO188 := n0_
                                have HO183 := n1_
                                have BK138 := n2_
                                have BK139 := n3_
                                have BK140 := n4_
                                have BK150 := n5_
                                have BK178 := n6_
                                have HB := n7_
                                clear n0_ n1_ n2_ n3_ n4_ n5_ n6_ n7_
                                (try clear hb)
                                (try clear hb2)
                                (try clear hk)
                                (try clear hi)
                                refine hK.out _ _ ⟨(blk_cell BK138.out 0).trans rfl, (blk_cell BK138.out 1).trans rfl, (blk_cell BK139.out 0).trans rfl, (blk_cell BK139.out 1).trans rfl, (blk_cell BK178.out 0).trans rfl, (blk_cell BK178.out 1).trans rfl⟩ (fun hHeld => ?_)
                                clear hK K
                                refine norm_ (a' := ?_) ?_ ?_
                                rotate_left
                                · show Act.put _ (some 80) _ = _
                                  simp only [Act.put, List.setIfInBounds_toArray, List.set_cons_zero, List.set_cons_succ, i64_w, i32_w]
                                  rfl
                                exact norm_ (by simp only [putAll, Act.put, List.setIfInBounds_toArray, List.set_cons_zero, List.set_cons_succ]) (hCont (.slice Ao129 y181.length co129, v187) _ ⟨hHeld, (by (with_reducible repeat (first | apply Kd.R_alloc | apply Kd.R_drewN | apply Kd.R_drew)); exact Kd.R_mono HO183.out (fun _ hk => ⟨hk.1.1.1.1.1.2, ⟨hk.1.1.1.1.2, ⟨hk.1.1.1.2, ⟨hk.1.1.2, ⟨hk.1.2, hk.2⟩⟩⟩⟩⟩)), (by (with_reducible repeat (first | apply Kd.R_alloc | apply Kd.R_drewN | apply Kd.R_drew)); exact Kd.R_mono HO188.out (fun _ hk => ⟨hk.2, ⟨hk.1.1.1.1.1.2, ⟨hk.1.1.1.1.2, ⟨hk.1.1.1.2, ⟨hk.1.1.2, hk.1.2⟩⟩⟩⟩⟩)), blk_, blk_, blk_, blk_, blk_, bel_⟩)
                            · skip
                              refine Kd.R_lit_step k38 _ 38 ?hg (N := 83) ?hd (xs := ([(⟨a0_0, a0_1⟩ : S38), (⟨a1_0, a1_1⟩ : S38)] : List (S38))) (inner := [.int .i64 a0_0, .int .i64 a0_1, .int .i64 a1_0, .int .i64 a1_1]) (ok := fun _ => True) (okp := fun _ => True) ?hr ?hp (fun _ hk => hk) trivial (Below.refl _ _) (Nat.le_refl _) (by simp) ?_; (case hd => rfl); (case hg => rfl); (case hr => first | (go_simp; done) | (go_simp; rfl)); (case hp => exact (Reps.c2 (show Kd.M k38 _ _ _ (⟨a0_0, a0_1⟩ : S38) [.int .i64 a0_0, .int .i64 a0_1] from (k38_mkM _ _ _ (⟨a0_0, a0_1⟩ : S38) )) (Reps.c2 (show Kd.M k38 _ _ _ (⟨a1_0, a1_1⟩ : S38) [.int .i64 a1_0, .int .i64 a1_1] from (k38_mkM _ _ _ (⟨a1_0, a1_1⟩ : S38) )) (Reps.none _ _))))
                              intro v187 w124 ho125 hb hg_ hnew_
                              clear hg_ hnew_
                              (first | rw [← Ny186.out] at ho125 | (simp only [Int.reduceToNat] at ho125; rw [← Ny186.out] at ho125))
                              have n0_ := Aside0.mk (Kd.R_lower (Kd.R_newB (Kd.R_newB (Kd.R_newB (Kd.R_newB (Kd.R_newB ho125 (g := gb138) (o := .cells #[.int .i64 a0_0, .int .i64 a0_1] 38 (0, 0)) blk_) (g := gb139) (o := .cells #[.int .i64 a1_0, .int .i64 a1_1] 38 (0, 0)) blk_) (g := gb140) (o := .cells #[.int .i64 a2_0, .int .i64 a2_1] 38 (0, 0)) blk_) (g := gb150) (o := .cells #[.int .i64 t148, .int .i64 t149] 38 (0, 0)) blk_) (g := gb178) (o := .cells #[.int .i64 t176, .int .i64 t177] 38 (0, 0)) blk_) (below_size bel_))
                              have n1_ := Aside0.mk (blk_below (g := gb138) (o := .cells #[.int .i64 a0_0, .int .i64 a0_1] 38 (0, 0)) blk_ hb)
                              have n2_ := Aside0.mk (blk_below (g := gb139) (o := .cells #[.int .i64 a1_0, .int .i64 a1_1] 38 (0, 0)) blk_ hb)
                              have n3_ := Aside0.mk (blk_below (g := gb140) (o := .cells #[.int .i64 a2_0, .int .i64 a2_1] 38 (0, 0)) blk_ hb)
                              have n4_ := Aside0.mk (blk_below (g := gb150) (o := .cells #[.int .i64 t148, .int .i64 t149] 38 (0, 0)) blk_ hb)
                              have n5_ := Aside0.mk (blk_below (g := gb178) (o := .cells #[.int .i64 t176, .int .i64 t177] 38 (0, 0)) blk_ hb)
                              have n6_ := Aside0.mk (below_step bel_ hb)
                              clear BK138
                              clear BK139
                              clear BK140
                              clear BK150
                              clear BK178
                              clear HB
                              have HO188 := n0_
                              have BK138 := n1_
                              have BK139 := n2_
                              have BK140 := n3_
                              have BK150 := n4_
                              have BK178 := n5_
                              have HB := n6_
                              clear n0_ n1_ n2_ n3_ n4_ n5_ n6_
                              clear hb ho125
                              refine hK.out _ _ ⟨(blk_cell BK138.out 0).trans rfl, (blk_cell BK138.out 1).trans rfl, (blk_cell BK139.out 0).trans rfl, (blk_cell BK139.out 1).trans rfl, (blk_cell BK178.out 0).trans rfl, (blk_cell BK178.out 1).trans rfl⟩ (fun hHeld => ?_)
                              clear hK K
                              refine norm_ (a' := ?_) ?_ ?_
                              rotate_left
                              · show Act.put _ (some 83) _ = _
                                simp only [Act.put, List.setIfInBounds_toArray, List.set_cons_zero, List.set_cons_succ, i64_w, i32_w]
                                rfl
                              refine one_ (i := 2) (N := some 77) #[true, true, true, true, false, false, true, true, true, false, false, false, false, false, false, false, false, false, false, false, false, false, false, false, false, false, false, false, false, false, false, false] rfl rfl (one_of HT_.out (by kernel_rfl)) (by decide) (fun K hK => ?_)
                              refine goes_ Try.func36 (by kernel_rfl) rfl #[.agg #[.int .i64 a0_0, .int .i64 a0_1], .agg #[.int .i64 a1_0, .int .i64 a1_1]] (by rfl) rfl rfl (by (try simp only [List.map_toArray, List.map_cons, List.map_nil]); first | done | rfl | (simp only [List.length_drop, List.length_take]; rfl)) ?_
                              with_reducible refine (change_Minus.calls a0_0 a0_1 a1_0 a1_1 t179 t180 _ A98.out).mono ?_
                              rintro e w126 ⟨rfl, hb⟩
                              refine ⟨_, rfl, ?_⟩
                              have n0_ := Aside0.mk (Kd.R_below (by (with_reducible repeat (first | apply Kd.R_alloc | apply Kd.R_drewN | apply Kd.R_drew)); exact HO188.out) hb)
                              have n1_ := Aside0.mk (blk_below (g := gb138) (o := .cells #[.int .i64 a0_0, .int .i64 a0_1] 38 (0, 0)) blk_ hb)
                              have n2_ := Aside0.mk (blk_below (g := gb139) (o := .cells #[.int .i64 a1_0, .int .i64 a1_1] 38 (0, 0)) blk_ hb)
                              have n3_ := Aside0.mk (blk_below (g := gb140) (o := .cells #[.int .i64 a2_0, .int .i64 a2_1] 38 (0, 0)) blk_ hb)
                              have n4_ := Aside0.mk (blk_below (g := gb150) (o := .cells #[.int .i64 t148, .int .i64 t149] 38 (0, 0)) blk_ hb)
                              have n5_ := Aside0.mk (blk_below (g := gb178) (o := .cells #[.int .i64 t176, .int .i64 t177] 38 (0, 0)) blk_ hb)
                              have n6_ := Aside0.mk (below_step bel_ hb)
                              clear HO188
                              clear BK138
                              clear BK139
                              clear BK140
                              clear BK150
                              clear BK178
                              clear HB
                              have HO188 := n0_
                              have BK138 := n1_
                              have BK139 := n2_
                              have BK140 := n3_
                              have BK150 := n4_
                              have BK178 := n5_
                              have HB := n6_
                              clear n0_ n1_ n2_ n3_ n4_ n5_ n6_
                              (try clear hb)
                              (try clear hb2)
                              (try clear hk)
                              (try clear hi)
                              refine hK.out _ _ ⟨(blk_cell BK138.out 0).trans rfl, (blk_cell BK138.out 1).trans rfl, (blk_cell BK139.out 0).trans rfl, (blk_cell BK139.out 1).trans rfl, (blk_cell BK178.out 0).trans rfl, (blk_cell BK178.out 1).trans rfl⟩ (fun hHeld => ?_)
                              clear hK K
                              refine norm_ (a' := ?_) ?_ ?_
                              rotate_left
                              · show Act.put _ (some 77) _ = _
                                simp only [Act.put, List.setIfInBounds_toArray, List.set_cons_zero, List.set_cons_succ, i64_w, i32_w]
                                rfl
                              refine one_ (i := 4) (N := some 79) #[true, true, true, true, true, false, true, true, true, false, false, false, false, false, false, false, false, false, false, false, false, false, false, false, false, false, false, false, false, false, false, false] rfl rfl (one_of HT_.out (by kernel_rfl)) (by decide) (fun K hK => ?_)
                              refine Kd.R_lit_step k38 _ 38 ?hg (N := 79) ?hd (xs := ([(⟨t179, t180⟩ : S38), (⟨a1_0, a1_1⟩ : S38)] : List (S38))) (inner := [.int .i64 t179, .int .i64 t180, .int .i64 a1_0, .int .i64 a1_1]) (ok := fun _ => True) (okp := fun _ => True) ?hr ?hp (fun _ hk => hk) trivial (Below.refl _ _) (Nat.le_refl _) (by simp) ?_; (case hd => rfl); (case hg => rfl); (case hr => first | (go_simp; done) | (go_simp; rfl)); (case hp => exact (Reps.c2 (show Kd.M k38 _ _ _ (⟨t179, t180⟩ : S38) [.int .i64 t179, .int .i64 t180] from (k38_mkM _ _ _ (⟨t179, t180⟩ : S38) )) (Reps.c2 (show Kd.M k38 _ _ _ (⟨a1_0, a1_1⟩ : S38) [.int .i64 a1_0, .int .i64 a1_1] from (k38_mkM _ _ _ (⟨a1_0, a1_1⟩ : S38) )) (Reps.none _ _))))
                              intro v182 w127 ho128 hb hg_ hnew_
                              clear hg_ hnew_
                              (first | rw [← Ny181.out] at ho128 | (simp only [Int.reduceToNat] at ho128; rw [← Ny181.out] at ho128))
                              have n0_ := Aside0.mk (Kd.R_elder' (by (with_reducible repeat (first | apply Kd.R_alloc | apply Kd.R_drewN | apply Kd.R_drew)); exact HO188.out) (Kd.R_base ho128) hb)
                              have n1_ := Aside0.mk (Kd.R_lower (Kd.R_newB (Kd.R_newB (Kd.R_newB (Kd.R_newB (Kd.R_newB (Kd.R_new' ho128 (Kd.R_lt (by (with_reducible repeat (first | apply Kd.R_alloc | apply Kd.R_drewN | apply Kd.R_drew)); exact HO188.out))) (g := gb138) (o := .cells #[.int .i64 a0_0, .int .i64 a0_1] 38 (0, 0)) blk_) (g := gb139) (o := .cells #[.int .i64 a1_0, .int .i64 a1_1] 38 (0, 0)) blk_) (g := gb140) (o := .cells #[.int .i64 a2_0, .int .i64 a2_1] 38 (0, 0)) blk_) (g := gb150) (o := .cells #[.int .i64 t148, .int .i64 t149] 38 (0, 0)) blk_) (g := gb178) (o := .cells #[.int .i64 t176, .int .i64 t177] 38 (0, 0)) blk_) (below_size bel_))
                              have n2_ := Aside0.mk (blk_below (g := gb138) (o := .cells #[.int .i64 a0_0, .int .i64 a0_1] 38 (0, 0)) blk_ hb)
                              have n3_ := Aside0.mk (blk_below (g := gb139) (o := .cells #[.int .i64 a1_0, .int .i64 a1_1] 38 (0, 0)) blk_ hb)
                              have n4_ := Aside0.mk (blk_below (g := gb140) (o := .cells #[.int .i64 a2_0, .int .i64 a2_1] 38 (0, 0)) blk_ hb)
                              have n5_ := Aside0.mk (blk_below (g := gb150) (o := .cells #[.int .i64 t148, .int .i64 t149] 38 (0, 0)) blk_ hb)
                              have n6_ := Aside0.mk (blk_below (g := gb178) (o := .cells #[.int .i64 t176, .int .i64 t177] 38 (0, 0)) blk_ hb)
                              have n7_ := Aside0.mk (below_step bel_ hb)
                              clear HO188
                              clear BK138
                              clear BK139
                              clear BK140
                              clear BK150
                              clear BK178
                              clear HB
                              have HO188 := n0_
                              have HO183 := n1_
                              have BK138 := n2_
                              have BK139 := n3_
                              have BK140 := n4_
                              have BK150 := n5_
                              have BK178 := n6_
                              have HB := n7_
                              clear n0_ n1_ n2_ n3_ n4_ n5_ n6_ n7_
                              clear hb ho128
                              obtain ⟨Ao129, co129, eo129⟩ := Kd.R_slice HO183.out
                              (first | subst eo129 | (injection eo129 with f1_ f2_ f3_; have f4_ := f1_.symm; have f5_ := f3_.symm; clear f1_ f2_ f3_; subst f4_; subst f5_))
                              refine hK.out _ _ ⟨(blk_cell BK138.out 0).trans rfl, (blk_cell BK138.out 1).trans rfl, (blk_cell BK139.out 0).trans rfl, (blk_cell BK139.out 1).trans rfl, (blk_cell BK178.out 0).trans rfl, (blk_cell BK178.out 1).trans rfl⟩ (fun hHeld => ?_)
                              clear hK K
                              refine norm_ (a' := ?_) ?_ ?_
                              rotate_left
                              · show Act.put _ (some 79) _ = _
                                simp only [Act.put, List.setIfInBounds_toArray, List.set_cons_zero, List.set_cons_succ, i64_w, i32_w]
                                rfl
                              refine one_ (i := 5) (N := some 80) #[true, true, true, true, true, true, true, true, true, false, false, false, false, false, false, false, false, false, false, false, false, false, false, false, false, false, false, false, false, false, false, false] rfl rfl (one_of HT_.out (by kernel_rfl)) (by decide) (fun K hK => ?_)
                              refine goes_ Try.func26 (by kernel_rfl) rfl #[.slice Ao129 y181.length co129] (by rfl) rfl rfl (by (try simp only [List.map_toArray, List.map_cons, List.map_nil]); first | done | rfl | (simp only [List.length_drop, List.length_take]; rfl)) ?_
                              with_reducible refine (change_Join.calls kj78 _ _ y181 t184 t185 _ ?side1 ?side2 A99.out).mono ?_
                              (case side1 => repeat (first | exact (Kd.R_reads' HO183.out).2.2 | (with_reducible refine Kd.C_alloc ?_ _) | (with_reducible refine Kd.C_drewN ?_ _) | (with_reducible refine Kd.C_drew ?_)))
                              (case side2 => exact (Kd.R_reads' HO183.out).2.1)
                              rintro e w130 ⟨rfl, hb⟩
                              refine ⟨_, rfl, ?_⟩
                              have n0_ := Aside0.mk (Kd.R_below (by (with_reducible repeat (first | apply Kd.R_alloc | apply Kd.R_drewN | apply Kd.R_drew)); exact HO188.out) hb)
                              have n1_ := Aside0.mk (Kd.R_below (by (with_reducible repeat (first | apply Kd.R_alloc | apply Kd.R_drewN | apply Kd.R_drew)); exact HO183.out) hb)
                              have n2_ := Aside0.mk (blk_below (g := gb138) (o := .cells #[.int .i64 a0_0, .int .i64 a0_1] 38 (0, 0)) blk_ hb)
                              have n3_ := Aside0.mk (blk_below (g := gb139) (o := .cells #[.int .i64 a1_0, .int .i64 a1_1] 38 (0, 0)) blk_ hb)
                              have n4_ := Aside0.mk (blk_below (g := gb140) (o := .cells #[.int .i64 a2_0, .int .i64 a2_1] 38 (0, 0)) blk_ hb)
                              have n5_ := Aside0.mk (blk_below (g := gb150) (o := .cells #[.int .i64 t148, .int .i64 t149] 38 (0, 0)) blk_ hb)
                              have n6_ := Aside0.mk (blk_below (g := gb178) (o := .cells #[.int .i64 t176, .int .i64 t177] 38 (0, 0)) blk_ hb)
                              have n7_ := Aside0.mk (below_step bel_ hb)
                              clear HO188
                              clear HO183
                              clear BK138
                              clear BK139
                              clear BK140
                              clear BK150
                              clear BK178
                              clear HB
                              have HO188 := n0_
                              have HO183 := n1_
                              have BK138 := n2_
                              have BK139 := n3_
                              have BK140 := n4_
                              have BK150 := n5_
                              have BK178 := n6_
                              have HB := n7_
                              clear n0_ n1_ n2_ n3_ n4_ n5_ n6_ n7_
                              (try clear hb)
                              (try clear hb2)
                              (try clear hk)
                              (try clear hi)
                              refine hK.out _ _ ⟨(blk_cell BK138.out 0).trans rfl, (blk_cell BK138.out 1).trans rfl, (blk_cell BK139.out 0).trans rfl, (blk_cell BK139.out 1).trans rfl, (blk_cell BK178.out 0).trans rfl, (blk_cell BK178.out 1).trans rfl⟩ (fun hHeld => ?_)
                              clear hK K
                              refine norm_ (a' := ?_) ?_ ?_
                              rotate_left
                              · show Act.put _ (some 80) _ = _
                                simp only [Act.put, List.setIfInBounds_toArray, List.set_cons_zero, List.set_cons_succ, i64_w, i32_w]
                                rfl
                              exact norm_ (by simp only [putAll, Act.put, List.setIfInBounds_toArray, List.set_cons_zero, List.set_cons_succ]) (hCont (.slice Ao129 y181.length co129, v187) _ ⟨hHeld, (by (with_reducible repeat (first | apply Kd.R_alloc | apply Kd.R_drewN | apply Kd.R_drew)); exact Kd.R_mono HO183.out (fun _ hk => ⟨hk.1.1.1.1.1.2, ⟨hk.1.1.1.1.2, ⟨hk.1.1.1.2, ⟨hk.1.1.2, ⟨hk.1.2, hk.2⟩⟩⟩⟩⟩)), (by (with_reducible repeat (first | apply Kd.R_alloc | apply Kd.R_drewN | apply Kd.R_drew)); exact Kd.R_mono HO188.out (fun _ hk => ⟨hk.2, ⟨hk.1.1.1.1.1.2, ⟨hk.1.1.1.1.2, ⟨hk.1.1.1.2, ⟨hk.1.1.2, hk.1.2⟩⟩⟩⟩⟩)), blk_, blk_, blk_, blk_, blk_, bel_⟩)
                          rintro ⟨v182, v187⟩ w131 ⟨hS_, h0_, h1_, h2_, h3_, h4_, h5_, h6_, h7_⟩
                          have n0_ : Aside0 (Kd.R k38 38 w131 w.heap.size (fun k_ => some k_ ≠ (v187 : Value).ownBlock ∧ k_ ≠ gb138 ∧ k_ ≠ gb139 ∧ k_ ≠ gb140 ∧ k_ ≠ gb150 ∧ k_ ≠ gb178) v182 y181) := ⟨h0_⟩
                          have n1_ : Aside0 (Kd.R k38 38 w131 w.heap.size (fun k_ => some k_ ≠ (v182 : Value).ownBlock ∧ k_ ≠ gb138 ∧ k_ ≠ gb139 ∧ k_ ≠ gb140 ∧ k_ ≠ gb150 ∧ k_ ≠ gb178) v187 y186) := ⟨h1_⟩
                          have n2_ : Aside0 (w131.heap[gb138]? = some (.cells #[.int .i64 a0_0, .int .i64 a0_1] 38 (0, 0))) := ⟨h2_⟩
                          have n3_ : Aside0 (w131.heap[gb139]? = some (.cells #[.int .i64 a1_0, .int .i64 a1_1] 38 (0, 0))) := ⟨h3_⟩
                          have n4_ : Aside0 (w131.heap[gb140]? = some (.cells #[.int .i64 a2_0, .int .i64 a2_1] 38 (0, 0))) := ⟨h4_⟩
                          have n5_ : Aside0 (w131.heap[gb150]? = some (.cells #[.int .i64 t148, .int .i64 t149] 38 (0, 0))) := ⟨h5_⟩
                          have n6_ : Aside0 (w131.heap[gb178]? = some (.cells #[.int .i64 t176, .int .i64 t177] 38 (0, 0))) := ⟨h6_⟩
                          have n7_ : Aside0 (Below w.heap.size w w131) := ⟨h7_⟩
                          clear BK138
                          clear BK139
                          clear BK140
                          clear BK150
                          clear BK178
                          clear HB
                          clear h0_ h1_ h2_ h3_ h4_ h5_ h6_ h7_
                          have HO183 := n0_
                          have HO188 := n1_
                          have BK138 := n2_
                          have BK139 := n3_
                          have BK140 := n4_
                          have BK150 := n5_
                          have BK178 := n6_
                          have HB := n7_
                          clear n0_ n1_ n2_ n3_ n4_ n5_ n6_ n7_
                          have hHeld : w131.cell? ⟨gb138, 0, none⟩ = some (.int .i64 a0_0) ∧ w131.cell? ⟨gb138, 1, none⟩ = some (.int .i64 a0_1) ∧ w131.cell? ⟨gb139, 0, none⟩ = some (.int .i64 a1_0) ∧ w131.cell? ⟨gb139, 1, none⟩ = some (.int .i64 a1_1) ∧ w131.cell? ⟨gb178, 0, none⟩ = some (.int .i64 t176) ∧ w131.cell? ⟨gb178, 1, none⟩ = some (.int .i64 t177) := hS_
                          obtain ⟨Ao132, co132, eo132⟩ := Kd.R_slice HO188.out
                          (first | subst eo132 | (injection eo132 with f1_ f2_ f3_; have f4_ := f1_.symm; have f5_ := f3_.symm; clear f1_ f2_ f3_; subst f4_; subst f5_))
                          refine norm_ (a' := ?_) ?_ ?_
                          rotate_left
                          · simp only [putAll, Act.put, List.setIfInBounds_toArray, List.set_cons_zero, List.set_cons_succ]
                            rfl
                          refine one_ (i := 9) (N := some 84) #[true, true, true, true, true, true, true, true, true, true, false, false, false, false, false, false, false, false, false, false, false, false, false, false, false, false, false, false, false, false, false, false] rfl rfl (one_of HT_.out (by kernel_rfl)) (by decide) (fun K hK => ?_)
                          refine goes_ Try.func26 (by kernel_rfl) rfl #[.slice Ao132 y186.length co132] (by rfl) rfl rfl (by (try simp only [List.map_toArray, List.map_cons, List.map_nil]); first | done | rfl | (simp only [List.length_drop, List.length_take]; rfl)) ?_
                          with_reducible refine (change_Join.calls kj78 _ _ y186 t189 t190 _ ?side1 ?side2 A100.out).mono ?_
                          (case side1 => repeat (first | exact (Kd.R_reads' HO188.out).2.2 | (with_reducible refine Kd.C_alloc ?_ _) | (with_reducible refine Kd.C_drewN ?_ _) | (with_reducible refine Kd.C_drew ?_)))
                          (case side2 => exact (Kd.R_reads' HO188.out).2.1)
                          rintro e w133 ⟨rfl, hb⟩
                          refine ⟨_, rfl, ?_⟩
                          have n0_ := Aside0.mk (Kd.R_below (by (with_reducible repeat (first | apply Kd.R_alloc | apply Kd.R_drewN | apply Kd.R_drew)); exact HO183.out) hb)
                          have n1_ := Aside0.mk (Kd.R_below (by (with_reducible repeat (first | apply Kd.R_alloc | apply Kd.R_drewN | apply Kd.R_drew)); exact HO188.out) hb)
                          have n2_ := Aside0.mk (blk_below (g := gb138) (o := .cells #[.int .i64 a0_0, .int .i64 a0_1] 38 (0, 0)) blk_ hb)
                          have n3_ := Aside0.mk (blk_below (g := gb139) (o := .cells #[.int .i64 a1_0, .int .i64 a1_1] 38 (0, 0)) blk_ hb)
                          have n4_ := Aside0.mk (blk_below (g := gb140) (o := .cells #[.int .i64 a2_0, .int .i64 a2_1] 38 (0, 0)) blk_ hb)
                          have n5_ := Aside0.mk (blk_below (g := gb150) (o := .cells #[.int .i64 t148, .int .i64 t149] 38 (0, 0)) blk_ hb)
                          have n6_ := Aside0.mk (blk_below (g := gb178) (o := .cells #[.int .i64 t176, .int .i64 t177] 38 (0, 0)) blk_ hb)
                          have n7_ := Aside0.mk (below_step bel_ hb)
                          clear HO183
                          clear HO188
                          clear BK138
                          clear BK139
                          clear BK140
                          clear BK150
                          clear BK178
                          clear HB
                          have HO183 := n0_
                          have HO188 := n1_
                          have BK138 := n2_
                          have BK139 := n3_
                          have BK140 := n4_
                          have BK150 := n5_
                          have BK178 := n6_
                          have HB := n7_
                          clear n0_ n1_ n2_ n3_ n4_ n5_ n6_ n7_
                          (try clear hb)
                          (try clear hb2)
                          (try clear hk)
                          (try clear hi)
                          refine hK.out _ _ ⟨(blk_cell BK138.out 0).trans rfl, (blk_cell BK138.out 1).trans rfl, (blk_cell BK139.out 0).trans rfl, (blk_cell BK139.out 1).trans rfl, (blk_cell BK178.out 0).trans rfl, (blk_cell BK178.out 1).trans rfl⟩ (fun hHeld => ?_)
                          clear hK K
                          refine norm_ (a' := ?_) ?_ ?_
                          rotate_left
                          · show Act.put _ (some 84) _ = _
                            simp only [Act.put, List.setIfInBounds_toArray, List.set_cons_zero, List.set_cons_succ, i64_w, i32_w]
                            rfl
                          refine pure_ (i := 10) (N := some 85) (v := ?_) (a' := ?_) #[true, true, true, true, true, true, true, true, true, true, true, false, false, false, false, false, false, false, false, false, false, false, false, false, false, false, false, false, false, false, false, false] rfl rfl (any_of HT_.out (by kernel_rfl)) (fun _ _ _ h => h) (Or.inl ⟨by rfl, ?_⟩) ?_ ?_
                          rotate_left
                          · intro w'
                            go_simp
                            with_reducible rfl
                          rotate_left
                          · simp only [Act.put, List.setIfInBounds_toArray, List.set_cons_zero, List.set_cons_succ, i64_w, i32_w]
                            rfl
                          refine pure_ (i := 11) (N := some 86) (v := ?_) (a' := ?_) #[true, true, true, true, true, true, true, true, true, true, true, true, false, false, false, false, false, false, false, false, false, false, false, false, false, false, false, false, false, false, false, false] rfl rfl (any_of HT_.out (by kernel_rfl)) (fun _ _ _ h => h) (Or.inl ⟨by rfl, ?_⟩) ?_ ?_
                          rotate_left
                          · intro w'
                            go_simp
                            with_reducible rfl
                          rotate_left
                          · simp only [Act.put, List.setIfInBounds_toArray, List.set_cons_zero, List.set_cons_succ, i64_w, i32_w]
                            rfl
                          refine take_ (i := 12) (N := some 87) (v := ?_) (a' := ?_) #[true, true, true, true, true, true, true, true, true, true, true, true, true, false, false, false, false, false, false, false, false, false, false, false, false, false, false, false, false, false, false, false] rfl rfl (take_ofW HT_.out HW_.out (by kernel_rfl)) (fun _ _ _ h => h) (Or.inl ⟨by rfl, ?_⟩) hHeld ?_ ?_
                          rotate_left
                          · rintro w' ⟨s0, s1, s2, s3, s4, s5⟩
                            go_simp
                            with_reducible rfl
                          rotate_left
                          · simp only [Act.put, List.setIfInBounds_toArray, List.set_cons_zero, List.set_cons_succ, i64_w, i32_w]
                            rfl
                          refine take_ (i := 13) (N := some 88) (v := ?_) (a' := ?_) #[true, true, true, true, true, true, true, true, true, true, true, true, true, true, false, false, false, false, false, false, false, false, false, false, false, false, false, false, false, false, false, false] rfl rfl (take_ofW HT_.out HW_.out (by kernel_rfl)) (fun _ _ _ h => h) (Or.inl ⟨by rfl, ?_⟩) hHeld ?_ ?_
                          rotate_left
                          · rintro w' ⟨s0, s1, s2, s3, s4, s5⟩
                            go_simp
                            with_reducible rfl
                          rotate_left
                          · simp only [Act.put, List.setIfInBounds_toArray, List.set_cons_zero, List.set_cons_succ, i64_w, i32_w]
                            rfl
                          refine take_ (i := 15) (N := some 90) (v := ?_) (a' := ?_) #[true, true, true, true, true, true, true, true, true, true, true, true, true, true, false, true, false, false, false, false, false, false, false, false, false, false, false, false, false, false, false, false] rfl rfl (take_ofW HT_.out HW_.out (by kernel_rfl)) (fun _ _ _ h => h) (Or.inl ⟨by rfl, ?_⟩) hHeld ?_ ?_
                          rotate_left
                          · rintro w' ⟨s0, s1, s2, s3, s4, s5⟩
                            go_simp
                            with_reducible rfl
                          rotate_left
                          · simp only [Act.put, List.setIfInBounds_toArray, List.set_cons_zero, List.set_cons_succ, i64_w, i32_w]
                            rfl
                          refine one_ (i := 14) (N := some 89) #[true, true, true, true, true, true, true, true, true, true, true, true, true, true, true, true, false, false, false, false, false, false, false, false, false, false, false, false, false, false, false, false] rfl rfl (one_of HT_.out (by kernel_rfl)) (by decide) (fun K hK => ?_)
                          refine goes_ Try.func36 (by kernel_rfl) rfl #[.agg #[.int .i64 t176, .int .i64 t177], .agg #[.int .i64 a1_0, .int .i64 a1_1]] (by rfl) rfl rfl (by (try simp only [List.map_toArray, List.map_cons, List.map_nil]); first | done | rfl | (simp only [List.length_drop, List.length_take]; rfl)) ?_
                          with_reducible refine (change_Minus.calls t176 t177 a1_0 a1_1 t191 t192 _ A102.out).mono ?_
                          rintro e w134 ⟨rfl, hb⟩
                          refine ⟨_, rfl, ?_⟩
                          have n0_ := Aside0.mk (Kd.R_below (by (with_reducible repeat (first | apply Kd.R_alloc | apply Kd.R_drewN | apply Kd.R_drew)); exact HO183.out) hb)
                          have n1_ := Aside0.mk (Kd.R_below (by (with_reducible repeat (first | apply Kd.R_alloc | apply Kd.R_drewN | apply Kd.R_drew)); exact HO188.out) hb)
                          have n2_ := Aside0.mk (blk_below (g := gb138) (o := .cells #[.int .i64 a0_0, .int .i64 a0_1] 38 (0, 0)) blk_ hb)
                          have n3_ := Aside0.mk (blk_below (g := gb139) (o := .cells #[.int .i64 a1_0, .int .i64 a1_1] 38 (0, 0)) blk_ hb)
                          have n4_ := Aside0.mk (blk_below (g := gb140) (o := .cells #[.int .i64 a2_0, .int .i64 a2_1] 38 (0, 0)) blk_ hb)
                          have n5_ := Aside0.mk (blk_below (g := gb150) (o := .cells #[.int .i64 t148, .int .i64 t149] 38 (0, 0)) blk_ hb)
                          have n6_ := Aside0.mk (blk_below (g := gb178) (o := .cells #[.int .i64 t176, .int .i64 t177] 38 (0, 0)) blk_ hb)
                          have n7_ := Aside0.mk (below_step bel_ hb)
                          clear HO183
                          clear HO188
                          clear BK138
                          clear BK139
                          clear BK140
                          clear BK150
                          clear BK178
                          clear HB
                          have HO183 := n0_
                          have HO188 := n1_
                          have BK138 := n2_
                          have BK139 := n3_
                          have BK140 := n4_
                          have BK150 := n5_
                          have BK178 := n6_
                          have HB := n7_
                          clear n0_ n1_ n2_ n3_ n4_ n5_ n6_ n7_
                          (try clear hb)
                          (try clear hb2)
                          (try clear hk)
                          (try clear hi)
                          refine hK.out _ _ ⟨(blk_cell BK138.out 0).trans rfl, (blk_cell BK138.out 1).trans rfl, (blk_cell BK139.out 0).trans rfl, (blk_cell BK139.out 1).trans rfl, (blk_cell BK178.out 0).trans rfl, (blk_cell BK178.out 1).trans rfl⟩ (fun hHeld => ?_)
                          clear hK K
                          refine norm_ (a' := ?_) ?_ ?_
                          rotate_left
                          · show Act.put _ (some 89) _ = _
                            simp only [Act.put, List.setIfInBounds_toArray, List.set_cons_zero, List.set_cons_succ, i64_w, i32_w]
                            rfl
                          refine pure_ (i := 16) (N := some 91) (v := ?_) (a' := ?_) #[true, true, true, true, true, true, true, true, true, true, true, true, true, true, true, true, true, false, false, false, false, false, false, false, false, false, false, false, false, false, false, false] rfl rfl (any_of HT_.out (by kernel_rfl)) (fun _ _ _ h => h) (Or.inl ⟨by rfl, ?_⟩) ?_ ?_
                          rotate_left
                          · intro w'
                            go_simp
                            with_reducible rfl
                          rotate_left
                          · simp only [Act.put, List.setIfInBounds_toArray, List.set_cons_zero, List.set_cons_succ, i64_w, i32_w]
                            rfl
                          refine pure_ (i := 17) (N := some 92) (v := ?_) (a' := ?_) #[true, true, true, true, true, true, true, true, true, true, true, true, true, true, true, true, true, true, false, false, false, false, false, false, false, false, false, false, false, false, false, false] rfl rfl (any_of HT_.out (by kernel_rfl)) (fun _ _ _ h => h) (Or.inl ⟨by rfl, ?_⟩) ?_ ?_
                          rotate_left
                          · intro w'
                            go_simp
                            with_reducible rfl
                          rotate_left
                          · simp only [Act.put, List.setIfInBounds_toArray, List.set_cons_zero, List.set_cons_succ, i64_w, i32_w]
                            rfl
                          refine pure_ (i := 18) (N := some 93) (v := ?_) (a' := ?_) #[true, true, true, true, true, true, true, true, true, true, true, true, true, true, true, true, true, true, true, false, false, false, false, false, false, false, false, false, false, false, false, false] rfl rfl (any_of HT_.out (by kernel_rfl)) (fun _ _ _ h => h) (Or.inl ⟨by rfl, ?_⟩) ?_ ?_
                          rotate_left
                          · intro w'
                            go_simp
                            with_reducible rfl
                          rotate_left
                          · simp only [Act.put, List.setIfInBounds_toArray, List.set_cons_zero, List.set_cons_succ, i64_w, i32_w]
                            rfl
                          refine take_ (i := 19) (N := some 94) (v := ?_) (a' := ?_) #[true, true, true, true, true, true, true, true, true, true, true, true, true, true, true, true, true, true, true, true, false, false, false, false, false, false, false, false, false, false, false, false] rfl rfl (take_ofW HT_.out HW_.out (by kernel_rfl)) (fun _ _ _ h => h) (Or.inl ⟨by rfl, ?_⟩) hHeld ?_ ?_
                          rotate_left
                          · rintro w' ⟨s0, s1, s2, s3, s4, s5⟩
                            go_simp
                            with_reducible rfl
                          rotate_left
                          · simp only [Act.put, List.setIfInBounds_toArray, List.set_cons_zero, List.set_cons_succ, i64_w, i32_w]
                            rfl
                          refine take_ (i := 20) (N := some 95) (v := ?_) (a' := ?_) #[true, true, true, true, true, true, true, true, true, true, true, true, true, true, true, true, true, true, true, true, true, false, false, false, false, false, false, false, false, false, false, false] rfl rfl (take_ofW HT_.out HW_.out (by kernel_rfl)) (fun _ _ _ h => h) (Or.inl ⟨by rfl, ?_⟩) hHeld ?_ ?_
                          rotate_left
                          · rintro w' ⟨s0, s1, s2, s3, s4, s5⟩
                            go_simp
                            with_reducible rfl
                          rotate_left
                          · simp only [Act.put, List.setIfInBounds_toArray, List.set_cons_zero, List.set_cons_succ, i64_w, i32_w]
                            rfl
                          refine take_ (i := 24) (N := some 99) (v := ?_) (a' := ?_) #[true, true, true, true, true, true, true, true, true, true, true, true, true, true, true, true, true, true, true, true, true, false, false, false, true, false, false, false, false, false, false, false] rfl rfl (take_ofW HT_.out HW_.out (by kernel_rfl)) (fun _ _ _ h => h) (Or.inl ⟨by rfl, ?_⟩) hHeld ?_ ?_
                          rotate_left
                          · rintro w' ⟨s0, s1, s2, s3, s4, s5⟩
                            go_simp
                            with_reducible rfl
                          rotate_left
                          · simp only [Act.put, List.setIfInBounds_toArray, List.set_cons_zero, List.set_cons_succ, i64_w, i32_w]
                            rfl
                          refine take_ (i := 26) (N := some 101) (v := ?_) (a' := ?_) #[true, true, true, true, true, true, true, true, true, true, true, true, true, true, true, true, true, true, true, true, true, false, false, false, true, false, true, false, false, false, false, false] rfl rfl (take_ofW HT_.out HW_.out (by kernel_rfl)) (fun _ _ _ h => h) (Or.inl ⟨by rfl, ?_⟩) hHeld ?_ ?_
                          rotate_left
                          · rintro w' ⟨s0, s1, s2, s3, s4, s5⟩
                            go_simp
                            with_reducible rfl
                          rotate_left
                          · simp only [Act.put, List.setIfInBounds_toArray, List.set_cons_zero, List.set_cons_succ, i64_w, i32_w]
                            rfl
                          refine one_ (i := 21) (N := some 96) #[true, true, true, true, true, true, true, true, true, true, true, true, true, true, true, true, true, true, true, true, true, true, false, false, true, false, true, false, false, false, false, false] rfl rfl (one_of HT_.out (by kernel_rfl)) (by decide) (fun K hK => ?_)
                          refine Kd.R_lit_step k38 _ 38 ?hg (N := 96) ?hd (xs := ([(⟨a0_0, a0_1⟩ : S38), (⟨a1_0, a1_1⟩ : S38)] : List (S38))) (inner := [.int .i64 a0_0, .int .i64 a0_1, .int .i64 a1_0, .int .i64 a1_1]) (ok := fun _ => True) (okp := fun _ => True) ?hr ?hp (fun _ hk => hk) trivial (Below.refl _ _) (Nat.le_refl _) (by simp) ?_; (case hd => rfl); (case hg => rfl); (case hr => first | (go_simp; done) | (go_simp; rfl)); (case hp => exact (Reps.c2 (show Kd.M k38 _ _ _ (⟨a0_0, a0_1⟩ : S38) [.int .i64 a0_0, .int .i64 a0_1] from (k38_mkM _ _ _ (⟨a0_0, a0_1⟩ : S38) )) (Reps.c2 (show Kd.M k38 _ _ _ (⟨a1_0, a1_1⟩ : S38) [.int .i64 a1_0, .int .i64 a1_1] from (k38_mkM _ _ _ (⟨a1_0, a1_1⟩ : S38) )) (Reps.none _ _))))
                          intro v194 w135 ho136 hb hg_ hnew_
                          clear hg_ hnew_
                          (first | rw [← Ny193.out] at ho136 | (simp only [Int.reduceToNat] at ho136; rw [← Ny193.out] at ho136))
                          have n0_ := Aside0.mk (Kd.R_elder' (by (with_reducible repeat (first | apply Kd.R_alloc | apply Kd.R_drewN | apply Kd.R_drew)); exact HO183.out) (Kd.R_base ho136) hb)
                          have n1_ := Aside0.mk (Kd.R_elder' (by (with_reducible repeat (first | apply Kd.R_alloc | apply Kd.R_drewN | apply Kd.R_drew)); exact HO188.out) (Kd.R_base ho136) hb)
                          have n2_ := Aside0.mk (Kd.R_lower (Kd.R_newB (Kd.R_newB (Kd.R_newB (Kd.R_newB (Kd.R_newB (Kd.R_new' (Kd.R_new' ho136 (Kd.R_lt (by (with_reducible repeat (first | apply Kd.R_alloc | apply Kd.R_drewN | apply Kd.R_drew)); exact HO183.out))) (Kd.R_lt (by (with_reducible repeat (first | apply Kd.R_alloc | apply Kd.R_drewN | apply Kd.R_drew)); exact HO188.out))) (g := gb138) (o := .cells #[.int .i64 a0_0, .int .i64 a0_1] 38 (0, 0)) blk_) (g := gb139) (o := .cells #[.int .i64 a1_0, .int .i64 a1_1] 38 (0, 0)) blk_) (g := gb140) (o := .cells #[.int .i64 a2_0, .int .i64 a2_1] 38 (0, 0)) blk_) (g := gb150) (o := .cells #[.int .i64 t148, .int .i64 t149] 38 (0, 0)) blk_) (g := gb178) (o := .cells #[.int .i64 t176, .int .i64 t177] 38 (0, 0)) blk_) (below_size bel_))
                          have n3_ := Aside0.mk (blk_below (g := gb138) (o := .cells #[.int .i64 a0_0, .int .i64 a0_1] 38 (0, 0)) blk_ hb)
                          have n4_ := Aside0.mk (blk_below (g := gb139) (o := .cells #[.int .i64 a1_0, .int .i64 a1_1] 38 (0, 0)) blk_ hb)
                          have n5_ := Aside0.mk (blk_below (g := gb140) (o := .cells #[.int .i64 a2_0, .int .i64 a2_1] 38 (0, 0)) blk_ hb)
                          have n6_ := Aside0.mk (blk_below (g := gb150) (o := .cells #[.int .i64 t148, .int .i64 t149] 38 (0, 0)) blk_ hb)
                          have n7_ := Aside0.mk (blk_below (g := gb178) (o := .cells #[.int .i64 t176, .int .i64 t177] 38 (0, 0)) blk_ hb)
                          have n8_ := Aside0.mk (below_step bel_ hb)
                          clear HO183
                          clear HO188
                          clear BK138
                          clear BK139
                          clear BK140
                          clear BK150
                          clear BK178
                          clear HB
                          have HO183 := n0_
                          have HO188 := n1_
                          have HO195 := n2_
                          have BK138 := n3_
                          have BK139 := n4_
                          have BK140 := n5_
                          have BK150 := n6_
                          have BK178 := n7_
                          have HB := n8_
                          clear n0_ n1_ n2_ n3_ n4_ n5_ n6_ n7_ n8_
                          clear hb ho136
                          obtain ⟨Ao137, co137, eo137⟩ := Kd.R_slice HO195.out
                          (first | subst eo137 | (injection eo137 with f1_ f2_ f3_; have f4_ := f1_.symm; have f5_ := f3_.symm; clear f1_ f2_ f3_; subst f4_; subst f5_))
                          refine hK.out _ _ ⟨(blk_cell BK138.out 0).trans rfl, (blk_cell BK138.out 1).trans rfl, (blk_cell BK139.out 0).trans rfl, (blk_cell BK139.out 1).trans rfl, (blk_cell BK178.out 0).trans rfl, (blk_cell BK178.out 1).trans rfl⟩ (fun hHeld => ?_)
                          clear hK K
                          refine norm_ (a' := ?_) ?_ ?_
                          rotate_left
                          · show Act.put _ (some 96) _ = _
                            simp only [Act.put, List.setIfInBounds_toArray, List.set_cons_zero, List.set_cons_succ, i64_w, i32_w]
                            rfl
                          refine one_ (i := 22) (N := some 97) #[true, true, true, true, true, true, true, true, true, true, true, true, true, true, true, true, true, true, true, true, true, true, true, false, true, false, true, false, false, false, false, false] rfl rfl (one_of HT_.out (by kernel_rfl)) (by decide) (fun K hK => ?_)
                          refine goes_ Try.func26 (by kernel_rfl) rfl #[.slice Ao137 y193.length co137] (by rfl) rfl rfl (by (try simp only [List.map_toArray, List.map_cons, List.map_nil]); first | done | rfl | (simp only [List.length_drop, List.length_take]; rfl)) ?_
                          with_reducible refine (change_Join.calls kj78 _ _ y193 t196 t197 _ ?side1 ?side2 A104.out).mono ?_
                          (case side1 => repeat (first | exact (Kd.R_reads' HO195.out).2.2 | (with_reducible refine Kd.C_alloc ?_ _) | (with_reducible refine Kd.C_drewN ?_ _) | (with_reducible refine Kd.C_drew ?_)))
                          (case side2 => exact (Kd.R_reads' HO195.out).2.1)
                          rintro e w138 ⟨rfl, hb⟩
                          refine ⟨_, rfl, ?_⟩
                          have n0_ := Aside0.mk (Kd.R_below (by (with_reducible repeat (first | apply Kd.R_alloc | apply Kd.R_drewN | apply Kd.R_drew)); exact HO183.out) hb)
                          have n1_ := Aside0.mk (Kd.R_below (by (with_reducible repeat (first | apply Kd.R_alloc | apply Kd.R_drewN | apply Kd.R_drew)); exact HO188.out) hb)
                          have n2_ := Aside0.mk (Kd.R_below (by (with_reducible repeat (first | apply Kd.R_alloc | apply Kd.R_drewN | apply Kd.R_drew)); exact HO195.out) hb)
                          have n3_ := Aside0.mk (blk_below (g := gb138) (o := .cells #[.int .i64 a0_0, .int .i64 a0_1] 38 (0, 0)) blk_ hb)
                          have n4_ := Aside0.mk (blk_below (g := gb139) (o := .cells #[.int .i64 a1_0, .int .i64 a1_1] 38 (0, 0)) blk_ hb)
                          have n5_ := Aside0.mk (blk_below (g := gb140) (o := .cells #[.int .i64 a2_0, .int .i64 a2_1] 38 (0, 0)) blk_ hb)
                          have n6_ := Aside0.mk (blk_below (g := gb150) (o := .cells #[.int .i64 t148, .int .i64 t149] 38 (0, 0)) blk_ hb)
                          have n7_ := Aside0.mk (blk_below (g := gb178) (o := .cells #[.int .i64 t176, .int .i64 t177] 38 (0, 0)) blk_ hb)
                          have n8_ := Aside0.mk (below_step bel_ hb)
                          clear HO183
                          clear HO188
                          clear HO195
                          clear BK138
                          clear BK139
                          clear BK140
                          clear BK150
                          clear BK178
                          clear HB
                          have HO183 := n0_
                          have HO188 := n1_
                          have HO195 := n2_
                          have BK138 := n3_
                          have BK139 := n4_
                          have BK140 := n5_
                          have BK150 := n6_
                          have BK178 := n7_
                          have HB := n8_
                          clear n0_ n1_ n2_ n3_ n4_ n5_ n6_ n7_ n8_
                          (try clear hb)
                          (try clear hb2)
                          (try clear hk)
                          (try clear hi)
                          refine hK.out _ _ ⟨(blk_cell BK138.out 0).trans rfl, (blk_cell BK138.out 1).trans rfl, (blk_cell BK139.out 0).trans rfl, (blk_cell BK139.out 1).trans rfl, (blk_cell BK178.out 0).trans rfl, (blk_cell BK178.out 1).trans rfl⟩ (fun hHeld => ?_)
                          clear hK K
                          refine norm_ (a' := ?_) ?_ ?_
                          rotate_left
                          · show Act.put _ (some 97) _ = _
                            simp only [Act.put, List.setIfInBounds_toArray, List.set_cons_zero, List.set_cons_succ, i64_w, i32_w]
                            rfl
                          refine one_ (i := 23) (N := some 98) #[true, true, true, true, true, true, true, true, true, true, true, true, true, true, true, true, true, true, true, true, true, true, true, true, true, false, true, false, false, false, false, false] rfl rfl (one_of HT_.out (by kernel_rfl)) (by decide) (fun K hK => ?_)
                          refine goes_ Try.func22 (by kernel_rfl) rfl #[.agg #[.int .i64 t196, .int .i64 t197]] (by rfl) rfl rfl (by (try simp only [List.map_toArray, List.map_cons, List.map_nil]); first | done | rfl | (simp only [List.length_drop, List.length_take]; rfl)) ?_
                          with_reducible refine (change_Size.calls t196 t197 t198 _ A105.out).mono ?_
                          rintro e w139 ⟨rfl, hb⟩
                          refine ⟨_, rfl, ?_⟩
                          have n0_ := Aside0.mk (Kd.R_below (by (with_reducible repeat (first | apply Kd.R_alloc | apply Kd.R_drewN | apply Kd.R_drew)); exact HO183.out) hb)
                          have n1_ := Aside0.mk (Kd.R_below (by (with_reducible repeat (first | apply Kd.R_alloc | apply Kd.R_drewN | apply Kd.R_drew)); exact HO188.out) hb)
                          have n2_ := Aside0.mk (Kd.R_below (by (with_reducible repeat (first | apply Kd.R_alloc | apply Kd.R_drewN | apply Kd.R_drew)); exact HO195.out) hb)
                          have n3_ := Aside0.mk (blk_below (g := gb138) (o := .cells #[.int .i64 a0_0, .int .i64 a0_1] 38 (0, 0)) blk_ hb)
                          have n4_ := Aside0.mk (blk_below (g := gb139) (o := .cells #[.int .i64 a1_0, .int .i64 a1_1] 38 (0, 0)) blk_ hb)
                          have n5_ := Aside0.mk (blk_below (g := gb140) (o := .cells #[.int .i64 a2_0, .int .i64 a2_1] 38 (0, 0)) blk_ hb)
                          have n6_ := Aside0.mk (blk_below (g := gb150) (o := .cells #[.int .i64 t148, .int .i64 t149] 38 (0, 0)) blk_ hb)
                          have n7_ := Aside0.mk (blk_below (g := gb178) (o := .cells #[.int .i64 t176, .int .i64 t177] 38 (0, 0)) blk_ hb)
                          have n8_ := Aside0.mk (below_step bel_ hb)
                          clear HO183
                          clear HO188
                          clear HO195
                          clear BK138
                          clear BK139
                          clear BK140
                          clear BK150
                          clear BK178
                          clear HB
                          have HO183 := n0_
                          have HO188 := n1_
                          have HO195 := n2_
                          have BK138 := n3_
                          have BK139 := n4_
                          have BK140 := n5_
                          have BK150 := n6_
                          have BK178 := n7_
                          have HB := n8_
                          clear n0_ n1_ n2_ n3_ n4_ n5_ n6_ n7_ n8_
                          (try clear hb)
                          (try clear hb2)
                          (try clear hk)
                          (try clear hi)
                          refine hK.out _ _ ⟨(blk_cell BK138.out 0).trans rfl, (blk_cell BK138.out 1).trans rfl, (blk_cell BK139.out 0).trans rfl, (blk_cell BK139.out 1).trans rfl, (blk_cell BK178.out 0).trans rfl, (blk_cell BK178.out 1).trans rfl⟩ (fun hHeld => ?_)
                          clear hK K
                          refine norm_ (a' := ?_) ?_ ?_
                          rotate_left
                          · show Act.put _ (some 98) _ = _
                            simp only [Act.put, List.setIfInBounds_toArray, List.set_cons_zero, List.set_cons_succ, i64_w, i32_w]
                            rfl
                          refine one_ (i := 25) (N := some 100) #[true, true, true, true, true, true, true, true, true, true, true, true, true, true, true, true, true, true, true, true, true, true, true, true, true, true, true, false, false, false, false, false] rfl rfl (one_of HT_.out (by kernel_rfl)) (by decide) (fun K hK => ?_)
                          refine goes_ Try.func22 (by kernel_rfl) rfl #[.agg #[.int .i64 a1_0, .int .i64 a1_1]] (by rfl) rfl rfl (by (try simp only [List.map_toArray, List.map_cons, List.map_nil]); first | done | rfl | (simp only [List.length_drop, List.length_take]; rfl)) ?_
                          with_reducible refine (change_Size.calls a1_0 a1_1 t199 _ A106.out).mono ?_
                          rintro e w140 ⟨rfl, hb⟩
                          refine ⟨_, rfl, ?_⟩
                          have n0_ := Aside0.mk (Kd.R_below (by (with_reducible repeat (first | apply Kd.R_alloc | apply Kd.R_drewN | apply Kd.R_drew)); exact HO183.out) hb)
                          have n1_ := Aside0.mk (Kd.R_below (by (with_reducible repeat (first | apply Kd.R_alloc | apply Kd.R_drewN | apply Kd.R_drew)); exact HO188.out) hb)
                          have n2_ := Aside0.mk (Kd.R_below (by (with_reducible repeat (first | apply Kd.R_alloc | apply Kd.R_drewN | apply Kd.R_drew)); exact HO195.out) hb)
                          have n3_ := Aside0.mk (blk_below (g := gb138) (o := .cells #[.int .i64 a0_0, .int .i64 a0_1] 38 (0, 0)) blk_ hb)
                          have n4_ := Aside0.mk (blk_below (g := gb139) (o := .cells #[.int .i64 a1_0, .int .i64 a1_1] 38 (0, 0)) blk_ hb)
                          have n5_ := Aside0.mk (blk_below (g := gb140) (o := .cells #[.int .i64 a2_0, .int .i64 a2_1] 38 (0, 0)) blk_ hb)
                          have n6_ := Aside0.mk (blk_below (g := gb150) (o := .cells #[.int .i64 t148, .int .i64 t149] 38 (0, 0)) blk_ hb)
                          have n7_ := Aside0.mk (blk_below (g := gb178) (o := .cells #[.int .i64 t176, .int .i64 t177] 38 (0, 0)) blk_ hb)
                          have n8_ := Aside0.mk (below_step bel_ hb)
                          clear HO183
                          clear HO188
                          clear HO195
                          clear BK138
                          clear BK139
                          clear BK140
                          clear BK150
                          clear BK178
                          clear HB
                          have HO183 := n0_
                          have HO188 := n1_
                          have HO195 := n2_
                          have BK138 := n3_
                          have BK139 := n4_
                          have BK140 := n5_
                          have BK150 := n6_
                          have BK178 := n7_
                          have HB := n8_
                          clear n0_ n1_ n2_ n3_ n4_ n5_ n6_ n7_ n8_
                          (try clear hb)
                          (try clear hb2)
                          (try clear hk)
                          (try clear hi)
                          refine hK.out _ _ ⟨(blk_cell BK138.out 0).trans rfl, (blk_cell BK138.out 1).trans rfl, (blk_cell BK139.out 0).trans rfl, (blk_cell BK139.out 1).trans rfl, (blk_cell BK178.out 0).trans rfl, (blk_cell BK178.out 1).trans rfl⟩ (fun hHeld => ?_)
                          clear hK K
                          refine norm_ (a' := ?_) ?_ ?_
                          rotate_left
                          · show Act.put _ (some 100) _ = _
                            simp only [Act.put, List.setIfInBounds_toArray, List.set_cons_zero, List.set_cons_succ, i64_w, i32_w]
                            rfl
                          refine one_ (i := 27) (N := some 102) #[true, true, true, true, true, true, true, true, true, true, true, true, true, true, true, true, true, true, true, true, true, true, true, true, true, true, true, true, false, false, false, false] rfl rfl (one_of HT_.out (by kernel_rfl)) (by decide) (fun K hK => ?_)
                          refine goes_ Try.func22 (by kernel_rfl) rfl #[.agg #[.int .i64 t176, .int .i64 t177]] (by rfl) rfl rfl (by (try simp only [List.map_toArray, List.map_cons, List.map_nil]); first | done | rfl | (simp only [List.length_drop, List.length_take]; rfl)) ?_
                          with_reducible refine (change_Size.calls t176 t177 t200 _ A107.out).mono ?_
                          rintro e w141 ⟨rfl, hb⟩
                          refine ⟨_, rfl, ?_⟩
                          have n0_ := Aside0.mk (Kd.R_below (by (with_reducible repeat (first | apply Kd.R_alloc | apply Kd.R_drewN | apply Kd.R_drew)); exact HO183.out) hb)
                          have n1_ := Aside0.mk (Kd.R_below (by (with_reducible repeat (first | apply Kd.R_alloc | apply Kd.R_drewN | apply Kd.R_drew)); exact HO188.out) hb)
                          have n2_ := Aside0.mk (Kd.R_below (by (with_reducible repeat (first | apply Kd.R_alloc | apply Kd.R_drewN | apply Kd.R_drew)); exact HO195.out) hb)
                          have n3_ := Aside0.mk (blk_below (g := gb138) (o := .cells #[.int .i64 a0_0, .int .i64 a0_1] 38 (0, 0)) blk_ hb)
                          have n4_ := Aside0.mk (blk_below (g := gb139) (o := .cells #[.int .i64 a1_0, .int .i64 a1_1] 38 (0, 0)) blk_ hb)
                          have n5_ := Aside0.mk (blk_below (g := gb140) (o := .cells #[.int .i64 a2_0, .int .i64 a2_1] 38 (0, 0)) blk_ hb)
                          have n6_ := Aside0.mk (blk_below (g := gb150) (o := .cells #[.int .i64 t148, .int .i64 t149] 38 (0, 0)) blk_ hb)
                          have n7_ := Aside0.mk (blk_below (g := gb178) (o := .cells #[.int .i64 t176, .int .i64 t177] 38 (0, 0)) blk_ hb)
                          have n8_ := Aside0.mk (below_step bel_ hb)
                          clear HO183
                          clear HO188
                          clear HO195
                          clear BK138
                          clear BK139
                          clear BK140
                          clear BK150
                          clear BK178
                          clear HB
                          have HO183 := n0_
                          have HO188 := n1_
                          have HO195 := n2_
                          have BK138 := n3_
                          have BK139 := n4_
                          have BK140 := n5_
                          have BK150 := n6_
                          have BK178 := n7_
                          have HB := n8_
                          clear n0_ n1_ n2_ n3_ n4_ n5_ n6_ n7_ n8_
                          (try clear hb)
                          (try clear hb2)
                          (try clear hk)
                          (try clear hi)
                          refine hK.out _ _ ⟨(blk_cell BK138.out 0).trans rfl, (blk_cell BK138.out 1).trans rfl, (blk_cell BK139.out 0).trans rfl, (blk_cell BK139.out 1).trans rfl, (blk_cell BK178.out 0).trans rfl, (blk_cell BK178.out 1).trans rfl⟩ (fun hHeld => ?_)
                          clear hK K
                          refine norm_ (a' := ?_) ?_ ?_
                          rotate_left
                          · show Act.put _ (some 102) _ = _
                            simp only [Act.put, List.setIfInBounds_toArray, List.set_cons_zero, List.set_cons_succ, i64_w, i32_w]
                            rfl
                          refine pure_ (i := 28) (N := some 103) (v := ?_) (a' := ?_) #[true, true, true, true, true, true, true, true, true, true, true, true, true, true, true, true, true, true, true, true, true, true, true, true, true, true, true, true, true, false, false, false] rfl rfl (any_of HT_.out (by kernel_rfl)) (fun _ _ _ h => h) (Or.inl ⟨by rfl, ?_⟩) ?_ ?_
                          rotate_left
                          · intro w'
                            go_simp
                            with_reducible rfl
                          rotate_left
                          · simp only [Act.put, List.setIfInBounds_toArray, List.set_cons_zero, List.set_cons_succ, i64_w, i32_w]
                            rfl
                          refine pure_ (i := 29) (N := some 104) (v := ?_) (a' := ?_) #[true, true, true, true, true, true, true, true, true, true, true, true, true, true, true, true, true, true, true, true, true, true, true, true, true, true, true, true, true, true, false, false] rfl rfl (any_of HT_.out (by kernel_rfl)) (fun _ _ _ h => h) (Or.inl ⟨by rfl, ?_⟩) ?_ ?_
                          rotate_left
                          · intro w'
                            go_simp
                            with_reducible rfl
                          rotate_left
                          · simp only [Act.put, List.setIfInBounds_toArray, List.set_cons_zero, List.set_cons_succ, i64_w, i32_w]
                            rfl
                          refine pure_ (i := 30) (N := some 105) (v := ?_) (a' := ?_) #[true, true, true, true, true, true, true, true, true, true, true, true, true, true, true, true, true, true, true, true, true, true, true, true, true, true, true, true, true, true, true, false] rfl rfl (any_of HT_.out (by kernel_rfl)) (fun _ _ _ h => h) (Or.inl ⟨by rfl, ?_⟩) ?_ ?_
                          rotate_left
                          · intro w'
                            go_simp
                            with_reducible rfl
                          rotate_left
                          · simp only [Act.put, List.setIfInBounds_toArray, List.set_cons_zero, List.set_cons_succ, i64_w, i32_w]
                            rfl
                          refine pure_ (i := 31) (N := some 6) (v := ?_) (a' := ?_) #[true, true, true, true, true, true, true, true, true, true, true, true, true, true, true, true, true, true, true, true, true, true, true, true, true, true, true, true, true, true, true, true] rfl rfl (any_of HT_.out (by kernel_rfl)) (fun _ _ _ h => h) (Or.inl ⟨by rfl, ?_⟩) ?_ ?_
                          rotate_left
                          · intro w'
                            go_simp
                            with_reducible rfl
                          rotate_left
                          · simp only [Act.put, List.setIfInBounds_toArray, List.set_cons_zero, List.set_cons_succ, i64_w, i32_w]
                            rfl
                          refine done_ (done_of HT_.out (by kernel_rfl)) ?_
                          try go_wp2
                          go_ret
                          exact ⟨by first | rfl | (simp [errW_none, errW_some] <;> rfl) | (simp [*, errW_none, errW_some] <;> rfl), bel_⟩
                        · rw [if_neg c103] at H
                          have c103b0 : (t191 == t176 && (t192 == t177)) = false := by simpa using c103
                          (try (have c103b1 : decide (t191 = t176 && (t192 == t177)) = false := by simpa using c103))
                          (try (have c103b2 : (t191 == t176 && (t192 == t177)) = false := by simpa using c103))
                          (try (have c103b3 : ¬ (t191 = t176 && (t192 == t177)) := by simpa using c103))
                          clear c103
                          exact absurd (Option.some.inj H) (by rw [hr1_.out]; decide)
                      · rw [if_neg c101] at H
                        have c101b0 : (t184 == t189 && (t185 == t190)) = false := by simpa using c101
                        (try (have c101b1 : decide (t184 = t189 && (t185 == t190)) = false := by simpa using c101))
                        (try (have c101b2 : (t184 == t189 && (t185 == t190)) = false := by simpa using c101))
                        (try (have c101b3 : ¬ (t184 = t189 && (t185 == t190)) := by simpa using c101))
                        clear c101
                        exact absurd (Option.some.inj H) (by rw [hr1_.out]; decide)
  · replace c5 := Bool.eq_false_iff.mpr c5
    subst c5
    have H1 : (some false) = some r := by rw [if_neg (show ¬ (false = true) by decide)] at H; exact H
    clear H
    have H := H1
    clear H1
    exact absurd (Option.some.inj H) (by rw [hr1_.out]; decide)

/-- THE ONE PURE STATEMENT of ropewaylaw04_ChangeTurns. -/
def ropewaylaw04_ChangeTurns.Pure : Prop := ∀ (a0_0 : Int) (a0_1 : Int) (a1_0 : Int) (a1_1 : Int) (a2_0 : Int) (a2_1 : Int), (Lit.int .i64 a0_0).wf = true → (Lit.int .i64 a0_1).wf = true → (Lit.int .i64 a1_0).wf = true → (Lit.int .i64 a1_1).wf = true → (Lit.int .i64 a2_0).wf = true → (Lit.int .i64 a2_1).wf = true → ∃ k, ropewaylaw04_ChangeTurns.f k a0_0 a0_1 a1_0 a1_1 a2_0 a2_1 = some true

end Go.Proofs.Ytbnhgckdplndfaa.PChangeTurns
