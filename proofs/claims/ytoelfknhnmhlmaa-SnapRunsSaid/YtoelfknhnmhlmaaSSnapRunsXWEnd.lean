/- words of the walk, of which only what this law uses is kept -/
import Derived.Test.YtoelfknhnmhlmaaSSnapRunsXWInl
namespace Go.Proofs.YtoelfknhnmhlmaaX
open Go.RowKit Go.Proofs.YtoelfknhnmhlmaaW.PrintWords Go.Proofs.YtoelfknhnmhlmaaW.PrintLast Go.Proofs.YtoelfknhnmhlmaaW.PrintMore
set_option linter.unusedVariables false
theorem rf2_ {w : World} {g t : Nat} {c0 c1 : Value} (h : w.heap[g]? = some (.cells #[c0, c1] t (0, 0))) : (w.cell? ⟨g, 0, none⟩ = some c0 ∧ w.cell? ⟨g, 1, none⟩ = some c1) ∧ (w.frozen? ⟨g, 0, none⟩ = false ∧ w.frozen? ⟨g, 1, none⟩ = false) := ⟨⟨(blk_cell h 0).trans rfl, (blk_cell h 1).trans rfl⟩, ⟨blk_frozen h 0, blk_frozen h 1⟩⟩
theorem rf3_ {w : World} {g t : Nat} {c0 c1 c2 : Value} (h : w.heap[g]? = some (.cells #[c0, c1, c2] t (0, 0))) : (w.cell? ⟨g, 0, none⟩ = some c0 ∧ w.cell? ⟨g, 1, none⟩ = some c1 ∧ w.cell? ⟨g, 2, none⟩ = some c2) ∧ (w.frozen? ⟨g, 0, none⟩ = false ∧ w.frozen? ⟨g, 1, none⟩ = false ∧ w.frozen? ⟨g, 2, none⟩ = false) := ⟨⟨(blk_cell h 0).trans rfl, (blk_cell h 1).trans rfl, (blk_cell h 2).trans rfl⟩, ⟨blk_frozen h 0, blk_frozen h 1, blk_frozen h 2⟩⟩
abbrev cz5_ (w : World) (g : Nat) (c0 c1 c2 c3 c4 : Value) : Prop := w.cell? ⟨g, 0, none⟩ = some c0 ∧ w.cell? ⟨g, 1, none⟩ = some c1 ∧ w.cell? ⟨g, 2, none⟩ = some c2 ∧ w.cell? ⟨g, 3, none⟩ = some c3 ∧ w.cell? ⟨g, 4, none⟩ = some c4
abbrev ca5_ (w : World) (g : Nat) (c0 c1 c2 c3 c4 : Value) (R : Prop) : Prop := w.cell? ⟨g, 0, none⟩ = some c0 ∧ w.cell? ⟨g, 1, none⟩ = some c1 ∧ w.cell? ⟨g, 2, none⟩ = some c2 ∧ w.cell? ⟨g, 3, none⟩ = some c3 ∧ w.cell? ⟨g, 4, none⟩ = some c4 ∧ R
theorem rf5_ {w : World} {g t : Nat} {c0 c1 c2 c3 c4 : Value} (h : w.heap[g]? = some (.cells #[c0, c1, c2, c3, c4] t (0, 0))) : (w.cell? ⟨g, 0, none⟩ = some c0 ∧ w.cell? ⟨g, 1, none⟩ = some c1 ∧ w.cell? ⟨g, 2, none⟩ = some c2 ∧ w.cell? ⟨g, 3, none⟩ = some c3 ∧ w.cell? ⟨g, 4, none⟩ = some c4) ∧ (w.frozen? ⟨g, 0, none⟩ = false ∧ w.frozen? ⟨g, 1, none⟩ = false ∧ w.frozen? ⟨g, 2, none⟩ = false ∧ w.frozen? ⟨g, 3, none⟩ = false ∧ w.frozen? ⟨g, 4, none⟩ = false) := ⟨⟨(blk_cell h 0).trans rfl, (blk_cell h 1).trans rfl, (blk_cell h 2).trans rfl, (blk_cell h 3).trans rfl, (blk_cell h 4).trans rfl⟩, ⟨blk_frozen h 0, blk_frozen h 1, blk_frozen h 2, blk_frozen h 3, blk_frozen h 4⟩⟩
theorem rc5_ {w : World} {g t : Nat} {c0 c1 c2 c3 c4 : Value} {R : Prop} (h : w.heap[g]? = some (.cells #[c0, c1, c2, c3, c4] t (0, 0))) (q : R) : ca5_ w g c0 c1 c2 c3 c4 R := ⟨(blk_cell h 0).trans rfl, (blk_cell h 1).trans rfl, (blk_cell h 2).trans rfl, (blk_cell h 3).trans rfl, (blk_cell h 4).trans rfl, q⟩
section
variable {α : Type} {d : Kd α} {e : Nat} {w w' : World} {b g c t t' i0 i1 i2 i3 i4 : Nat} {P Q : Nat → Prop} {v x0 x1 x2 x3 x4 : Value} {xs : List α} {cs cs' cz : Array Value}
theorem rm_ (H : Aside0 (d.R e w b P v xs)) (m : ∀ k, P k → Q k) : Aside0 (d.R e w b Q v xs) := ⟨Kd.R_mono H.out m⟩
theorem vm_ (H : Aside0 (Kd.V d e w b P v xs)) (m : ∀ k, P k → Q k) : Aside0 (Kd.V d e w b Q v xs) := ⟨Kd.V_mono H.out m⟩
theorem tR1_ (hw : w' = (w.setCell ⟨g, i0, none⟩ x0)) (H : Aside0 (d.R e w b P v xs)) (B : Aside0 (w.heap[g]? = some (.cells cs t (0, 0)))) (m : ∀ k, P k ∧ k ≠ g → Q k) (ht : ∀ q, q ∈ e :: d.E → q ≠ t := by decide) : Aside0 (d.R e w' b Q v xs) := by
  subst hw; exact ⟨Kd.R_mono (Kd.R_far (Kd.R_types H.out B.out ht) (fun _ hk => hk.2) x0) m⟩
theorem tV1_ (hw : w' = (w.setCell ⟨g, i0, none⟩ x0)) (H : Aside0 (Kd.V d e w b P v xs)) (n : ∀ k, P k → k ≠ g) (m : ∀ k, P k ∧ k ≠ g → Q k) : Aside0 (Kd.V d e w' b Q v xs) := by
  subst hw; exact ⟨Kd.V_mono (Kd.V_far (Kd.V_mono H.out (fun k hk => ⟨hk, n k hk⟩)) (fun _ hk => hk.2) x0) m⟩
theorem bB1_ (hw : w' = (w.setCell ⟨g, i0, none⟩ x0)) (B : Aside0 (w.heap[c]? = some (.cells cz t' (0, 0)))) (N : Aside0 (c ≠ g)) : Aside0 (w'.heap[c]? = some (.cells cz t' (0, 0))) := by
  subst hw; exact ⟨(blk_far B.out (p := ⟨g, i0, none⟩) N.out x0)⟩
theorem bP1_ (hw : w' = (w.setCell ⟨g, i0, none⟩ x0)) (B : Aside0 (w.heap[g]? = some (.cells cs t (0, 0)))) (r : (cs.setIfInBounds i0 x0) = cs') : Aside0 (w'.heap[g]? = some (.cells cs' t (0, 0))) := by
  subst hw; subst r; exact ⟨(blk_put B.out i0 x0 rfl)⟩
theorem tR2_ (hw : w' = ((w.setCell ⟨g, i0, none⟩ x0).setCell ⟨g, i1, none⟩ x1)) (H : Aside0 (d.R e w b P v xs)) (B : Aside0 (w.heap[g]? = some (.cells cs t (0, 0)))) (m : ∀ k, P k ∧ k ≠ g → Q k) (ht : ∀ q, q ∈ e :: d.E → q ≠ t := by decide) : Aside0 (d.R e w' b Q v xs) := by
  subst hw; exact ⟨Kd.R_mono (Kd.R_far (Kd.R_far (Kd.R_types H.out B.out ht) (fun _ hk => hk.2) x0) (fun _ hk => hk.2) x1) m⟩
theorem tV2_ (hw : w' = ((w.setCell ⟨g, i0, none⟩ x0).setCell ⟨g, i1, none⟩ x1)) (H : Aside0 (Kd.V d e w b P v xs)) (n : ∀ k, P k → k ≠ g) (m : ∀ k, P k ∧ k ≠ g → Q k) : Aside0 (Kd.V d e w' b Q v xs) := by
  subst hw; exact ⟨Kd.V_mono (Kd.V_far (Kd.V_far (Kd.V_mono H.out (fun k hk => ⟨hk, n k hk⟩)) (fun _ hk => hk.2) x0) (fun _ hk => hk.2) x1) m⟩
theorem bB2_ (hw : w' = ((w.setCell ⟨g, i0, none⟩ x0).setCell ⟨g, i1, none⟩ x1)) (B : Aside0 (w.heap[c]? = some (.cells cz t' (0, 0)))) (N : Aside0 (c ≠ g)) : Aside0 (w'.heap[c]? = some (.cells cz t' (0, 0))) := by
  subst hw; exact ⟨(blk_far (blk_far B.out (p := ⟨g, i0, none⟩) N.out x0) (p := ⟨g, i1, none⟩) N.out x1)⟩
theorem bP2_ (hw : w' = ((w.setCell ⟨g, i0, none⟩ x0).setCell ⟨g, i1, none⟩ x1)) (B : Aside0 (w.heap[g]? = some (.cells cs t (0, 0)))) (r : ((cs.setIfInBounds i0 x0).setIfInBounds i1 x1) = cs') : Aside0 (w'.heap[g]? = some (.cells cs' t (0, 0))) := by
  subst hw; subst r; exact ⟨(blk_put (blk_put B.out i0 x0 rfl) i1 x1 rfl)⟩
theorem tR5_ (hw : w' = (((((w.setCell ⟨g, i0, none⟩ x0).setCell ⟨g, i1, none⟩ x1).setCell ⟨g, i2, none⟩ x2).setCell ⟨g, i3, none⟩ x3).setCell ⟨g, i4, none⟩ x4)) (H : Aside0 (d.R e w b P v xs)) (B : Aside0 (w.heap[g]? = some (.cells cs t (0, 0)))) (m : ∀ k, P k ∧ k ≠ g → Q k) (ht : ∀ q, q ∈ e :: d.E → q ≠ t := by decide) : Aside0 (d.R e w' b Q v xs) := by
  subst hw; exact ⟨Kd.R_mono (Kd.R_far (Kd.R_far (Kd.R_far (Kd.R_far (Kd.R_far (Kd.R_types H.out B.out ht) (fun _ hk => hk.2) x0) (fun _ hk => hk.2) x1) (fun _ hk => hk.2) x2) (fun _ hk => hk.2) x3) (fun _ hk => hk.2) x4) m⟩
theorem tV5_ (hw : w' = (((((w.setCell ⟨g, i0, none⟩ x0).setCell ⟨g, i1, none⟩ x1).setCell ⟨g, i2, none⟩ x2).setCell ⟨g, i3, none⟩ x3).setCell ⟨g, i4, none⟩ x4)) (H : Aside0 (Kd.V d e w b P v xs)) (n : ∀ k, P k → k ≠ g) (m : ∀ k, P k ∧ k ≠ g → Q k) : Aside0 (Kd.V d e w' b Q v xs) := by
  subst hw; exact ⟨Kd.V_mono (Kd.V_far (Kd.V_far (Kd.V_far (Kd.V_far (Kd.V_far (Kd.V_mono H.out (fun k hk => ⟨hk, n k hk⟩)) (fun _ hk => hk.2) x0) (fun _ hk => hk.2) x1) (fun _ hk => hk.2) x2) (fun _ hk => hk.2) x3) (fun _ hk => hk.2) x4) m⟩
theorem bB5_ (hw : w' = (((((w.setCell ⟨g, i0, none⟩ x0).setCell ⟨g, i1, none⟩ x1).setCell ⟨g, i2, none⟩ x2).setCell ⟨g, i3, none⟩ x3).setCell ⟨g, i4, none⟩ x4)) (B : Aside0 (w.heap[c]? = some (.cells cz t' (0, 0)))) (N : Aside0 (c ≠ g)) : Aside0 (w'.heap[c]? = some (.cells cz t' (0, 0))) := by
  subst hw; exact ⟨(blk_far (blk_far (blk_far (blk_far (blk_far B.out (p := ⟨g, i0, none⟩) N.out x0) (p := ⟨g, i1, none⟩) N.out x1) (p := ⟨g, i2, none⟩) N.out x2) (p := ⟨g, i3, none⟩) N.out x3) (p := ⟨g, i4, none⟩) N.out x4)⟩
theorem bP5_ (hw : w' = (((((w.setCell ⟨g, i0, none⟩ x0).setCell ⟨g, i1, none⟩ x1).setCell ⟨g, i2, none⟩ x2).setCell ⟨g, i3, none⟩ x3).setCell ⟨g, i4, none⟩ x4)) (B : Aside0 (w.heap[g]? = some (.cells cs t (0, 0)))) (r : (((((cs.setIfInBounds i0 x0).setIfInBounds i1 x1).setIfInBounds i2 x2).setIfInBounds i3 x3).setIfInBounds i4 x4) = cs') : Aside0 (w'.heap[g]? = some (.cells cs' t (0, 0))) := by
  subst hw; subst r; exact ⟨(blk_put (blk_put (blk_put (blk_put (blk_put B.out i0 x0 rfl) i1 x1 rfl) i2 x2 rfl) i3 x3 rfl) i4 x4 rfl)⟩
theorem tR1d1_ {nd : Nat} (hw : w' = (((w.setCell ⟨g, i0, none⟩ x0).drewN nd).setCell ⟨g, i1, none⟩ x1)) (H : Aside0 (d.R e w b P v xs)) (B : Aside0 (w.heap[g]? = some (.cells cs t (0, 0)))) (m : ∀ k, P k ∧ k ≠ g → Q k) (ht : ∀ q, q ∈ e :: d.E → q ≠ t := by decide) : Aside0 (d.R e w' b Q v xs) := by
  subst hw; exact ⟨Kd.R_mono (Kd.R_far (Kd.R_drewN (Kd.R_far (Kd.R_types H.out B.out ht) (fun _ hk => hk.2) x0) nd) (fun _ hk => hk.2) x1) m⟩
theorem tV1d1_ {nd : Nat} (hw : w' = (((w.setCell ⟨g, i0, none⟩ x0).drewN nd).setCell ⟨g, i1, none⟩ x1)) (H : Aside0 (Kd.V d e w b P v xs)) (n : ∀ k, P k → k ≠ g) (m : ∀ k, P k ∧ k ≠ g → Q k) : Aside0 (Kd.V d e w' b Q v xs) := by
  subst hw; exact ⟨Kd.V_mono (Kd.V_far (Kd.V_drewN (Kd.V_far (Kd.V_mono H.out (fun k hk => ⟨hk, n k hk⟩)) (fun _ hk => hk.2) x0) nd) (fun _ hk => hk.2) x1) m⟩
theorem bB1d1_ {nd : Nat} (hw : w' = (((w.setCell ⟨g, i0, none⟩ x0).drewN nd).setCell ⟨g, i1, none⟩ x1)) (B : Aside0 (w.heap[c]? = some (.cells cz t' (0, 0)))) (N : Aside0 (c ≠ g)) : Aside0 (w'.heap[c]? = some (.cells cz t' (0, 0))) := by
  subst hw; exact ⟨(blk_far (blk_drewN (blk_far B.out (p := ⟨g, i0, none⟩) N.out x0) nd) (p := ⟨g, i1, none⟩) N.out x1)⟩
theorem bP1d1_ {nd : Nat} (hw : w' = (((w.setCell ⟨g, i0, none⟩ x0).drewN nd).setCell ⟨g, i1, none⟩ x1)) (B : Aside0 (w.heap[g]? = some (.cells cs t (0, 0)))) (r : ((cs.setIfInBounds i0 x0).setIfInBounds i1 x1) = cs') : Aside0 (w'.heap[g]? = some (.cells cs' t (0, 0))) := by
  subst hw; subst r; exact ⟨(blk_put (blk_drewN (blk_put B.out i0 x0 rfl) nd) i1 x1 rfl)⟩
theorem tR2d1_ {nd : Nat} (hw : w' = ((((w.setCell ⟨g, i0, none⟩ x0).setCell ⟨g, i1, none⟩ x1).drewN nd).setCell ⟨g, i2, none⟩ x2)) (H : Aside0 (d.R e w b P v xs)) (B : Aside0 (w.heap[g]? = some (.cells cs t (0, 0)))) (m : ∀ k, P k ∧ k ≠ g → Q k) (ht : ∀ q, q ∈ e :: d.E → q ≠ t := by decide) : Aside0 (d.R e w' b Q v xs) := by
  subst hw; exact ⟨Kd.R_mono (Kd.R_far (Kd.R_drewN (Kd.R_far (Kd.R_far (Kd.R_types H.out B.out ht) (fun _ hk => hk.2) x0) (fun _ hk => hk.2) x1) nd) (fun _ hk => hk.2) x2) m⟩
theorem tV2d1_ {nd : Nat} (hw : w' = ((((w.setCell ⟨g, i0, none⟩ x0).setCell ⟨g, i1, none⟩ x1).drewN nd).setCell ⟨g, i2, none⟩ x2)) (H : Aside0 (Kd.V d e w b P v xs)) (n : ∀ k, P k → k ≠ g) (m : ∀ k, P k ∧ k ≠ g → Q k) : Aside0 (Kd.V d e w' b Q v xs) := by
  subst hw; exact ⟨Kd.V_mono (Kd.V_far (Kd.V_drewN (Kd.V_far (Kd.V_far (Kd.V_mono H.out (fun k hk => ⟨hk, n k hk⟩)) (fun _ hk => hk.2) x0) (fun _ hk => hk.2) x1) nd) (fun _ hk => hk.2) x2) m⟩
theorem bB2d1_ {nd : Nat} (hw : w' = ((((w.setCell ⟨g, i0, none⟩ x0).setCell ⟨g, i1, none⟩ x1).drewN nd).setCell ⟨g, i2, none⟩ x2)) (B : Aside0 (w.heap[c]? = some (.cells cz t' (0, 0)))) (N : Aside0 (c ≠ g)) : Aside0 (w'.heap[c]? = some (.cells cz t' (0, 0))) := by
  subst hw; exact ⟨(blk_far (blk_drewN (blk_far (blk_far B.out (p := ⟨g, i0, none⟩) N.out x0) (p := ⟨g, i1, none⟩) N.out x1) nd) (p := ⟨g, i2, none⟩) N.out x2)⟩
theorem bP2d1_ {nd : Nat} (hw : w' = ((((w.setCell ⟨g, i0, none⟩ x0).setCell ⟨g, i1, none⟩ x1).drewN nd).setCell ⟨g, i2, none⟩ x2)) (B : Aside0 (w.heap[g]? = some (.cells cs t (0, 0)))) (r : (((cs.setIfInBounds i0 x0).setIfInBounds i1 x1).setIfInBounds i2 x2) = cs') : Aside0 (w'.heap[g]? = some (.cells cs' t (0, 0))) := by
  subst hw; subst r; exact ⟨(blk_put (blk_drewN (blk_put (blk_put B.out i0 x0 rfl) i1 x1 rfl) nd) i2 x2 rfl)⟩
theorem bG_ {k : Option Nat} (B : Aside0 (w.heap[g]? = some (.cells cs t (0, 0)))) (hg : w.grownBy w' k) (n : some g ≠ k) : Aside0 (w'.heap[g]? = some (.cells cs t (0, 0))) := ⟨blk_grown B.out hg n⟩
end
end Go.Proofs.YtoelfknhnmhlmaaX

