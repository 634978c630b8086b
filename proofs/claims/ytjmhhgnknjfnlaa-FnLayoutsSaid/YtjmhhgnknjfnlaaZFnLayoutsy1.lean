-- functions and their walks: written by a program of this claim's
import Derived.Test.YtjmhhgnknjfnlaaProg
import Derived.Test.YtjmhhgnknjfnlaaVFnLayouts
import Derived.Test.YtjmhhgnknjfnlaaZFnLayoutsy0
namespace Go.Proofs.Ytjmhhgnknjfnlaa.PFnLayouts
open Go.RowKit Go.Proofs.YtjmhhgnknjfnlaaW.PrintWords Go.Proofs.YtjmhhgnknjfnlaaW.PrintLast Go.Proofs.YtjmhhgnknjfnlaaW.PrintMore
attribute [local go_sem] max2_int min2_int max_two min_two max_three min_three max_four min_four
set_option linter.unusedVariables false
set_option linter.unusedSimpArgs false
theorem Bb_0 {P : Prop} (h : P := by first | rfl | (simp [errW_none, errW_some] <;> rfl) | (simp [*, errW_none, errW_some] <;> rfl)) : P := h
theorem Bb_1 {P : Prop} (h : P := by first | (with_reducible assumption) | assumption) : P := h
theorem Bb_2 {P : Prop} (h : P := by first | rfl | (simp; done) | (simp [*]; done)) : P := h
theorem Bb_3 {P : Prop} (h : P := by (try simp only [List.map_toArray, List.map_cons, List.map_nil]); first | done | rfl | (simp only [List.length_drop, List.length_take]; rfl)) : P := h
theorem Bb_4 {P : Prop} (h : P := by exact ⟨(blk_cell BK212.out 0).trans rfl, (blk_cell BK212.out 1).trans rfl, (blk_cell BK212.out 2).trans rfl, (blk_cell BK212.out 3).trans rfl⟩) : P := h
theorem Bb_5 {P : Prop} (h : P := by (with_reducible repeat (first | refine blk_drewN ?_ _ | refine blk_drew ?_ | refine blk_alloc ?_ _)); exact BK197.out) : P := h
theorem Bb_6 {P : Prop} (h : P := by (with_reducible repeat (first | refine blk_drewN ?_ _ | refine blk_drew ?_ | refine blk_alloc ?_ _)); exact BK218.out) : P := h
theorem Bb_7 {P : Prop} (h : P := by (with_reducible repeat (first | apply Kd.V_alloc | apply Kd.V_drewN | apply Kd.V_drew)); exact HO0_2.out) : P := h
theorem Bb_8 {P : Prop} (h : P := by (with_reducible repeat (first | apply Kd.V_alloc | apply Kd.V_drewN | apply Kd.V_drew)); exact HO0_3.out) : P := h
theorem Bb_9 {P : Prop} (h : P := by (with_reducible repeat (first | apply Kd.V_alloc | apply Kd.V_drewN | apply Kd.V_drew)); exact HO_198002.out) : P := h
theorem Bb_10 {P : Prop} (h : P := by (with_reducible repeat (first | apply Kd.V_alloc | apply Kd.V_drewN | apply Kd.V_drew)); exact HO_198003.out) : P := h
theorem Bb_11 {P : Prop} (h : P := by exact ⟨(blk_cell BK227.out 0).trans rfl, (blk_cell BK227.out 1).trans rfl, (blk_cell BK227.out 2).trans rfl⟩) : P := h
theorem Bb_12 {P : Prop} (h : P := by (with_reducible repeat (first | apply Kd.N_alloc | apply Kd.N_drewN | apply Kd.N_drew)); exact HO_11.out) : P := h
theorem Bb_13 {P : Prop} (h : P := by (with_reducible repeat (first | apply Kd.R_alloc | apply Kd.R_drewN | apply Kd.R_drew)); exact HO_5.out) : P := h
theorem Bb_14 {P : Prop} (h : P := by repeat (first | (with_reducible exact HR203_0.out) | (with_reducible refine Kd.C_alloc ?_ _) | (with_reducible refine Kd.C_drewN ?_ _) | (with_reducible refine Kd.C_drew ?_) | exact HR203_0.out)) : P := h
theorem Bb_15 {P : Prop} (h : P := by have := HK1.out; omega) : P := h
theorem Bb_16 {P : Prop} (h : P := by first | exact (show Aside0 (x29_2 ≤ (l0_2.length : Int)) by assumption).out | exact of_decide_eq_true (by assumption) | exact Int.le_of_lt (of_decide_eq_true (by assumption))) : P := h
theorem Bb_17 {P : Prop} (h : P := by have := HJ1.out; have := HK2.out; have := HK3.out; omega) : P := h
mutual
def impl_SquaresOf.l0 : Nat → List (List Int) → Int → Int → Int → Int → List Int → List Int → Option (Int)
 | 0, _, _, _, _, _, _, _ => none
 | k + 1, x11, x12, x13, x198000, x198001, x198002, x198003 => if x13 < x12 then (if 0 ≤ x13 then (if x13 < (x11.length : Int) then ((impl_within.f ((rd_L2 x11 x13).length : Int) 1 4).bind fun t204 => (if t204 = true then (impl_SquaresOf.l1 k x11 x12 x13 (rd_L2 x11 x13) ((rd_L2 x11 x13).length : Int) 0 x198000 x198001 x198002 x198003) else (some 0))) else (none)) else (none)) else ((impl_sumOf.f k x198002).bind fun t201 => ((impl_sumOf.f k x198003).bind fun t202 => (some (wrap64 (t201 * t202)))))
def impl_SquaresOf.l1 : Nat → List (List Int) → Int → Int → List Int → Int → Int → Int → Int → List Int → List Int → Option (Int)
 | 0, _, _, _, _, _, _, _, _, _, _ => none
 | k + 1, x11, x12, x13, x21, x22, x23, x198000, x198001, x198002, x198003 => if x23 < x22 then (if 0 ≤ x23 then (if x23 < (x21.length : Int) then ((impl_within.f (rd x21 x23) 1 8).bind fun t206 => (if t206 = true then (impl_SquaresOf.l1 k x11 x12 x13 x21 x22 (wrap64 (x23 + 1)) x198000 x198001 x198002 x198003) else (some 0))) else (none)) else (none)) else (impl_SquaresOf.l0 k x11 x12 (wrap64 (x13 + 1)) x198000 x198001 x198002 x198003)
end
def impl_SquaresOf.f (k : Nat) (a0_0 : Int) (a0_1 : Int) (l0_2 : List Int) (l0_3 : List Int) : Option (Int) := (some (([l0_2, l0_3] : List (List Int)) : List (List Int))).bind fun y198 => (impl_SquaresOf.l0 k y198 (y198.length : Int) 0 a0_0 a0_1 l0_2 l0_3)
theorem impl_SquaresOf.mono_l : ∀ k, (∀ y0 y1 y2 y3 y4 y5 y6, LeO (impl_SquaresOf.l0 k y0 y1 y2 y3 y4 y5 y6) (impl_SquaresOf.l0 (k + 1) y0 y1 y2 y3 y4 y5 y6)) ∧ (∀ y0 y1 y2 y3 y4 y5 y6 y7 y8 y9, LeO (impl_SquaresOf.l1 k y0 y1 y2 y3 y4 y5 y6 y7 y8 y9) (impl_SquaresOf.l1 (k + 1) y0 y1 y2 y3 y4 y5 y6 y7 y8 y9))
 | 0 => ⟨fun _ _ _ _ _ _ _ r h => by simp [impl_SquaresOf.l0] at h, fun _ _ _ _ _ _ _ _ _ _ r h => by simp [impl_SquaresOf.l1] at h⟩
 | k + 1 => by
  obtain ⟨ih0, ih1⟩ := impl_SquaresOf.mono_l k; refine ⟨?_, ?_⟩
  ·intro y0 y1 y2 y3 y4 y5 y6
   unfold impl_SquaresOf.l0
   repeat' first
   | (with_reducible exact ih0 _ _ _ _ _ _ _)
   | (with_reducible exact ih1 _ _ _ _ _ _ _ _ _ _)
   | (with_reducible exact impl_sumOf.mono _ _)
   | (with_reducible exact LeO.refl _)
   | (with_reducible exact LeO.none _)
   | (with_reducible refine LeO.ite ?_ ?_)
   | (with_reducible refine LeO.bind ?_ (fun _ => ?_))
   | exact ih0 _ _ _ _ _ _ _
   | exact ih1 _ _ _ _ _ _ _ _ _ _
   | exact impl_sumOf.mono _ _
   | exact LeO.none _
   | refine LeO.ite ?_ ?_
   | refine LeO.bind ?_ (fun _ => ?_)
  ·intro y0 y1 y2 y3 y4 y5 y6 y7 y8 y9
   unfold impl_SquaresOf.l1
   repeat' first
   | (with_reducible exact ih0 _ _ _ _ _ _ _)
   | (with_reducible exact ih1 _ _ _ _ _ _ _ _ _ _)
   | (with_reducible exact impl_sumOf.mono _ _)
   | (with_reducible exact LeO.refl _)
   | (with_reducible exact LeO.none _)
   | (with_reducible refine LeO.ite ?_ ?_)
   | (with_reducible refine LeO.bind ?_ (fun _ => ?_))
   | exact ih0 _ _ _ _ _ _ _
   | exact ih1 _ _ _ _ _ _ _ _ _ _
   | exact impl_sumOf.mono _ _
   | exact LeO.none _
   | refine LeO.ite ?_ ?_
   | refine LeO.bind ?_ (fun _ => ?_)
theorem impl_SquaresOf.mono : ∀ a0 a1 a2 a3 k, LeO (impl_SquaresOf.f k a0 a1 a2 a3) (impl_SquaresOf.f (k + 1) a0 a1 a2 a3) := by
 intro a0 a1 a2 a3 k; obtain ⟨ih0, ih1⟩ := impl_SquaresOf.mono_l k; unfold impl_SquaresOf.f
 repeat' first
   | (with_reducible exact ih0 _ _ _ _ _ _ _)
   | (with_reducible exact ih1 _ _ _ _ _ _ _ _ _ _)
   | (with_reducible exact impl_sumOf.mono _ _)
   | (with_reducible exact LeO.refl _)
   | (with_reducible exact LeO.none _)
   | (with_reducible refine LeO.ite ?_ ?_)
   | (with_reducible refine LeO.bind ?_ (fun _ => ?_))
   | exact ih0 _ _ _ _ _ _ _
   | exact ih1 _ _ _ _ _ _ _ _ _ _
   | exact impl_sumOf.mono _ _
   | exact LeO.none _
   | refine LeO.ite ?_ ?_
   | refine LeO.bind ?_ (fun _ => ?_)
set_option maxHeartbeats 8000000 in
set_option maxRecDepth 100000 in
theorem impl_SquaresOf.calls (k : Nat) (a0_0 : Int) (a0_1 : Int) (P0_2_ : Nat → Prop) (A0_2 : Option Addr) (c0_2 : Nat) (l0_2 : List Int) (P0_3_ : Nat → Prop) (A0_3 : Option Addr) (c0_3 : Nat) (l0_3 : List Int) (r : Int) (w : World) (hs0_2 : Kd.V (Kd.int .i64) 3 w w.heap.size (fun k_ => P0_2_ k_) (.slice A0_2 l0_2.length c0_2) l0_2) (hs0_3 : Kd.V (Kd.int .i64) 3 w w.heap.size (fun k_ => P0_3_ k_) (.slice A0_3 l0_3.length c0_3) l0_3) (h : impl_SquaresOf.f k a0_0 a0_1 l0_2 l0_3 = some r) :
  Calls Try.prog 86 #[.agg #[.int .i64 a0_0, .int .i64 a0_1, .slice A0_2 l0_2.length c0_2, .slice A0_3 l0_3.length c0_3]] w fun e w' => e = .returned (.int .i64 r) ∧ Below w.heap.size w w' := by
 have hu46 := Try.underlying46; have HO0_2 := Aside0.mk (show Kd.V (Kd.int .i64) 3 w w.heap.size (fun k_ => ((P0_2_ k_ ∨ P0_3_ k_) ∨ w.heap.size ≤ k_)) (.slice A0_2 l0_2.length c0_2) l0_2 from Kd.V_mono hs0_2 (fun k_ hk => .inl (.inl hk))); have HO0_3 := Aside0.mk (show Kd.V (Kd.int .i64) 3 w w.heap.size (fun k_ => ((P0_2_ k_ ∨ P0_3_ k_) ∨ w.heap.size ≤ k_)) (.slice A0_3 l0_3.length c0_3) l0_3 from Kd.V_mono hs0_3 (fun k_ hk => .inl (.inr hk))); have HB := Aside0.mk (Below.refl w.heap.size w); have H : ((some (([l0_2, l0_3] : List (List Int)) : List (List Int))).bind fun y198 => (impl_SquaresOf.l0 k y198 (y198.length : Int) 0 a0_0 a0_1 l0_2 l0_3)) = some r := h; clear h; obtain ⟨y198, hy198⟩ : ∃ y_ : List (List Int), y_ = (([l0_2, l0_3] : List (List Int))) := ⟨_, rfl⟩; replace H : (impl_SquaresOf.l0 k y198 (y198.length : Int) 0 a0_0 a0_1 l0_2 l0_3) = some r := by first | (rw [hy198]; with_reducible exact H) | (have H2_ := (Option.bind_some _ _).symm.trans H; rw [hy198]; with_reducible exact H2_) | (have H2_ := (Option.bind_some _ _).symm.trans H; with_reducible exact H2_) | with_reducible exact H | (rw [hy198]; exact H) | exact H
 have Ny198 := Aside0.mk hy198; clear hy198; have H' := Aside0.mk H; clear H; go_enter Try.func86, Try.ntmps86; go_wp2_with (first | ((with_reducible refine gate_dst (N := 1) rfl ?_); refine bx_ (N := 1) (cs := #[.int .i64 a0_0, .int .i64 a0_1, .slice A0_2 l0_2.length c0_2, .slice A0_3 l0_3.length c0_3]) (t := 46) ?_; intro gb197 hg w2 hbox hb; replace HO0_2 := Aside0.mk (Kd.V_below (Kd.V_elderB Bb_7 gb197 (Nat.le_of_eq hg.symm)) hb); replace HO0_3 := Aside0.mk (Kd.V_below (Kd.V_elderB Bb_8 gb197 (Nat.le_of_eq hg.symm)) hb); have BK197 := Aside0.mk (hbox); have GW197 := gw_ hg hb_; have GE197 := gw_ hg hb_; replace HB := Aside0.mk (below_step hb_ hb); clear hb hbox hg; have hz3 := bc4_ BK197.out) | ((with_reducible refine gate_dst (N := 11) rfl ?_); refine Kd.N_lit (Kd.slice 3 (Kd.int .i64)) _ 37 ?hg (N' := 11) ?hd (xs := ([l0_2, l0_3] : List (List Int))) (inner := [.slice A0_2 l0_2.length c0_2, .slice A0_3 l0_3.length c0_3]) (ok := (fun k_ => ((P0_2_ k_ ∨ P0_3_ k_) ∨ w.heap.size ≤ k_) ∧ k_ ≠ gb197)) (okp := (fun k_ => ((P0_2_ k_ ∨ P0_3_ k_) ∨ w.heap.size ≤ k_) ∧ k_ ≠ gb197)) ?hr ?hp (fun _ hk => hk) ((show ∀ k_, w2.heap.size ≤ k_ → (fun k_ => ((P0_2_ k_ ∨ P0_3_ k_) ∨ w.heap.size ≤ k_) ∧ k_ ≠ gb197) k_ from fun k_ hk => ⟨(.inr (Nat.le_trans (below_size hb_) hk)), Kd.freshB (g := gb197) (o := .cells #[.int .i64 a0_0, .int .i64 a0_1, .slice A0_2 l0_2.length c0_2, .slice A0_3 l0_3.length c0_3] 46 (0, 0)) Bb_5 k_ hk⟩) _ (Nat.le_refl _)) (Below.refl _ _) (Nat.le_refl _) (by simp) ?_; (case hd => rfl); (case hg => rfl); (case hr => first | (go_simp; done) | (go_simp; rfl)); (case hp => exact (Reps.one (show Kd.FK (Kd.slice 3 (Kd.int .i64)) _ _ l0_2 [.slice A0_2 l0_2.length c0_2] from (Kd.FK_slice_mk (Kd.V_reads' (Kd.V_mono (ok' := (fun k_ => ((P0_2_ k_ ∨ P0_3_ k_) ∨ w.heap.size ≤ k_) ∧ k_ ≠ gb197)) (HO0_2.out) (fun k_ hk => ⟨hk.1, hk.2⟩))).2.1 (Kd.V_F (Kd.V_mono (ok' := (fun k_ => ((P0_2_ k_ ∨ P0_3_ k_) ∨ w.heap.size ≤ k_) ∧ k_ ≠ gb197)) (HO0_2.out) (fun k_ hk => ⟨hk.1, hk.2⟩))))) (Reps.one (show Kd.FK (Kd.slice 3 (Kd.int .i64)) _ _ l0_3 [.slice A0_3 l0_3.length c0_3] from (Kd.FK_slice_mk (Kd.V_reads' (Kd.V_mono (ok' := (fun k_ => ((P0_2_ k_ ∨ P0_3_ k_) ∨ w.heap.size ≤ k_) ∧ k_ ≠ gb197)) (HO0_3.out) (fun k_ hk => ⟨hk.1, hk.2⟩))).2.1 (Kd.V_F (Kd.V_mono (ok' := (fun k_ => ((P0_2_ k_ ∨ P0_3_ k_) ∨ w.heap.size ≤ k_) ∧ k_ ≠ gb197)) (HO0_3.out) (fun k_ hk => ⟨hk.1, hk.2⟩))))) (Reps.none _ _)))); intro v199 w4 ho5 hb hg_ hnew_; clear hg_ hnew_; (first | rw [← Ny198.out] at ho5 | (simp only [Int.reduceToNat] at ho5; rw [← Ny198.out] at ho5)); replace HO0_2 := Aside0.mk (Kd.V_elder' Bb_7 (Kd.N_base ho5) hb); replace HO0_3 := Aside0.mk (Kd.V_elder' Bb_8 (Kd.N_base ho5) hb); have HO200 := Aside0.mk (Kd.N_lower ho5 (below_size hb_)); replace BK197 := bb_ BK197 hb; replace HB := Aside0.mk (below_step hb_ hb); clear hb ho5; obtain ⟨Ao6, co6, eo6⟩ := Kd.N_slice HO200.out; subst eo6))
 repeat (go_quiet (first | ((with_reducible refine gate_dst (N := 1) rfl ?_); refine bx_ (N := 1) (cs := #[.int .i64 a0_0, .int .i64 a0_1, .slice A0_2 l0_2.length c0_2, .slice A0_3 l0_3.length c0_3]) (t := 46) ?_; intro gb197 hg w2 hbox hb; replace HO0_2 := Aside0.mk (Kd.V_below (Kd.V_elderB Bb_7 gb197 (Nat.le_of_eq hg.symm)) hb); replace HO0_3 := Aside0.mk (Kd.V_below (Kd.V_elderB Bb_8 gb197 (Nat.le_of_eq hg.symm)) hb); have BK197 := Aside0.mk (hbox); have GW197 := gw_ hg hb_; have GE197 := gw_ hg hb_; replace HB := Aside0.mk (below_step hb_ hb); clear hb hbox hg; have hz3 := bc4_ BK197.out) | ((with_reducible refine gate_dst (N := 11) rfl ?_); refine Kd.N_lit (Kd.slice 3 (Kd.int .i64)) _ 37 ?hg (N' := 11) ?hd (xs := ([l0_2, l0_3] : List (List Int))) (inner := [.slice A0_2 l0_2.length c0_2, .slice A0_3 l0_3.length c0_3]) (ok := (fun k_ => ((P0_2_ k_ ∨ P0_3_ k_) ∨ w.heap.size ≤ k_) ∧ k_ ≠ gb197)) (okp := (fun k_ => ((P0_2_ k_ ∨ P0_3_ k_) ∨ w.heap.size ≤ k_) ∧ k_ ≠ gb197)) ?hr ?hp (fun _ hk => hk) ((show ∀ k_, w2.heap.size ≤ k_ → (fun k_ => ((P0_2_ k_ ∨ P0_3_ k_) ∨ w.heap.size ≤ k_) ∧ k_ ≠ gb197) k_ from fun k_ hk => ⟨(.inr (Nat.le_trans (below_size hb_) hk)), Kd.freshB (g := gb197) (o := .cells #[.int .i64 a0_0, .int .i64 a0_1, .slice A0_2 l0_2.length c0_2, .slice A0_3 l0_3.length c0_3] 46 (0, 0)) Bb_5 k_ hk⟩) _ (Nat.le_refl _)) (Below.refl _ _) (Nat.le_refl _) (by simp) ?_; (case hd => rfl); (case hg => rfl); (case hr => first | (go_simp; done) | (go_simp; rfl)); (case hp => exact (Reps.one (show Kd.FK (Kd.slice 3 (Kd.int .i64)) _ _ l0_2 [.slice A0_2 l0_2.length c0_2] from (Kd.FK_slice_mk (Kd.V_reads' (Kd.V_mono (ok' := (fun k_ => ((P0_2_ k_ ∨ P0_3_ k_) ∨ w.heap.size ≤ k_) ∧ k_ ≠ gb197)) (HO0_2.out) (fun k_ hk => ⟨hk.1, hk.2⟩))).2.1 (Kd.V_F (Kd.V_mono (ok' := (fun k_ => ((P0_2_ k_ ∨ P0_3_ k_) ∨ w.heap.size ≤ k_) ∧ k_ ≠ gb197)) (HO0_2.out) (fun k_ hk => ⟨hk.1, hk.2⟩))))) (Reps.one (show Kd.FK (Kd.slice 3 (Kd.int .i64)) _ _ l0_3 [.slice A0_3 l0_3.length c0_3] from (Kd.FK_slice_mk (Kd.V_reads' (Kd.V_mono (ok' := (fun k_ => ((P0_2_ k_ ∨ P0_3_ k_) ∨ w.heap.size ≤ k_) ∧ k_ ≠ gb197)) (HO0_3.out) (fun k_ hk => ⟨hk.1, hk.2⟩))).2.1 (Kd.V_F (Kd.V_mono (ok' := (fun k_ => ((P0_2_ k_ ∨ P0_3_ k_) ∨ w.heap.size ≤ k_) ∧ k_ ≠ gb197)) (HO0_3.out) (fun k_ hk => ⟨hk.1, hk.2⟩))))) (Reps.none _ _)))); intro v199 w4 ho5 hb hg_ hnew_; clear hg_ hnew_; (first | rw [← Ny198.out] at ho5 | (simp only [Int.reduceToNat] at ho5; rw [← Ny198.out] at ho5)); replace HO0_2 := Aside0.mk (Kd.V_elder' Bb_7 (Kd.N_base ho5) hb); replace HO0_3 := Aside0.mk (Kd.V_elder' Bb_8 (Kd.N_base ho5) hb); have HO200 := Aside0.mk (Kd.N_lower ho5 (below_size hb_)); replace BK197 := bb_ BK197 hb; replace HB := Aside0.mk (below_step hb_ hb); clear hb ho5; obtain ⟨Ao6, co6, eo6⟩ := Kd.N_slice HO200.out; subst eo6)); try go_wp2_with (first | ((with_reducible refine gate_dst (N := 1) rfl ?_); refine bx_ (N := 1) (cs := #[.int .i64 a0_0, .int .i64 a0_1, .slice A0_2 l0_2.length c0_2, .slice A0_3 l0_3.length c0_3]) (t := 46) ?_; intro gb197 hg w2 hbox hb; replace HO0_2 := Aside0.mk (Kd.V_below (Kd.V_elderB Bb_7 gb197 (Nat.le_of_eq hg.symm)) hb); replace HO0_3 := Aside0.mk (Kd.V_below (Kd.V_elderB Bb_8 gb197 (Nat.le_of_eq hg.symm)) hb); have BK197 := Aside0.mk (hbox); have GW197 := gw_ hg hb_; have GE197 := gw_ hg hb_; replace HB := Aside0.mk (below_step hb_ hb); clear hb hbox hg; have hz3 := bc4_ BK197.out) | ((with_reducible refine gate_dst (N := 11) rfl ?_); refine Kd.N_lit (Kd.slice 3 (Kd.int .i64)) _ 37 ?hg (N' := 11) ?hd (xs := ([l0_2, l0_3] : List (List Int))) (inner := [.slice A0_2 l0_2.length c0_2, .slice A0_3 l0_3.length c0_3]) (ok := (fun k_ => ((P0_2_ k_ ∨ P0_3_ k_) ∨ w.heap.size ≤ k_) ∧ k_ ≠ gb197)) (okp := (fun k_ => ((P0_2_ k_ ∨ P0_3_ k_) ∨ w.heap.size ≤ k_) ∧ k_ ≠ gb197)) ?hr ?hp (fun _ hk => hk) ((show ∀ k_, w2.heap.size ≤ k_ → (fun k_ => ((P0_2_ k_ ∨ P0_3_ k_) ∨ w.heap.size ≤ k_) ∧ k_ ≠ gb197) k_ from fun k_ hk => ⟨(.inr (Nat.le_trans (below_size hb_) hk)), Kd.freshB (g := gb197) (o := .cells #[.int .i64 a0_0, .int .i64 a0_1, .slice A0_2 l0_2.length c0_2, .slice A0_3 l0_3.length c0_3] 46 (0, 0)) Bb_5 k_ hk⟩) _ (Nat.le_refl _)) (Below.refl _ _) (Nat.le_refl _) (by simp) ?_; (case hd => rfl); (case hg => rfl); (case hr => first | (go_simp; done) | (go_simp; rfl)); (case hp => exact (Reps.one (show Kd.FK (Kd.slice 3 (Kd.int .i64)) _ _ l0_2 [.slice A0_2 l0_2.length c0_2] from (Kd.FK_slice_mk (Kd.V_reads' (Kd.V_mono (ok' := (fun k_ => ((P0_2_ k_ ∨ P0_3_ k_) ∨ w.heap.size ≤ k_) ∧ k_ ≠ gb197)) (HO0_2.out) (fun k_ hk => ⟨hk.1, hk.2⟩))).2.1 (Kd.V_F (Kd.V_mono (ok' := (fun k_ => ((P0_2_ k_ ∨ P0_3_ k_) ∨ w.heap.size ≤ k_) ∧ k_ ≠ gb197)) (HO0_2.out) (fun k_ hk => ⟨hk.1, hk.2⟩))))) (Reps.one (show Kd.FK (Kd.slice 3 (Kd.int .i64)) _ _ l0_3 [.slice A0_3 l0_3.length c0_3] from (Kd.FK_slice_mk (Kd.V_reads' (Kd.V_mono (ok' := (fun k_ => ((P0_2_ k_ ∨ P0_3_ k_) ∨ w.heap.size ≤ k_) ∧ k_ ≠ gb197)) (HO0_3.out) (fun k_ hk => ⟨hk.1, hk.2⟩))).2.1 (Kd.V_F (Kd.V_mono (ok' := (fun k_ => ((P0_2_ k_ ∨ P0_3_ k_) ∨ w.heap.size ≤ k_) ∧ k_ ≠ gb197)) (HO0_3.out) (fun k_ hk => ⟨hk.1, hk.2⟩))))) (Reps.none _ _)))); intro v199 w4 ho5 hb hg_ hnew_; clear hg_ hnew_; (first | rw [← Ny198.out] at ho5 | (simp only [Int.reduceToNat] at ho5; rw [← Ny198.out] at ho5)); replace HO0_2 := Aside0.mk (Kd.V_elder' Bb_7 (Kd.N_base ho5) hb); replace HO0_3 := Aside0.mk (Kd.V_elder' Bb_8 (Kd.N_base ho5) hb); have HO200 := Aside0.mk (Kd.N_lower ho5 (below_size hb_)); replace BK197 := bb_ BK197 hb; replace HB := Aside0.mk (below_step hb_ hb); clear hb ho5; obtain ⟨Ao6, co6, eo6⟩ := Kd.N_slice HO200.out; subst eo6)))
 go_loopg [13] k (fun kq v13 w' => ∃ (x13_1 : Int), v13 = .int .i64 x13_1 ∧ Aside0 (impl_SquaresOf.l0 kq y198 (y198.length : Int) x13_1 a0_0 a0_1 l0_2 l0_3 = some r) ∧ Aside0 (kq ≤ k) ∧ Aside0 (Kd.N (Kd.slice 3 (Kd.int .i64)) 37 w' w.heap.size (fun k_ => ((P0_2_ k_ ∨ P0_3_ k_) ∨ w.heap.size ≤ k_) ∧ k_ ≠ gb197) (.slice Ao6 y198.length co6) y198) ∧ Aside0 (Kd.V (Kd.int .i64) 3 w' w.heap.size (fun k_ => ((P0_2_ k_ ∨ P0_3_ k_) ∨ w.heap.size ≤ k_) ∧ some k_ ≠ ((.slice Ao6 y198.length co6) : Value).ownBlock ∧ k_ ≠ gb197) (.slice A0_2 l0_2.length c0_2) l0_2) ∧ Aside0 (Kd.V (Kd.int .i64) 3 w' w.heap.size (fun k_ => ((P0_2_ k_ ∨ P0_3_ k_) ∨ w.heap.size ≤ k_) ∧ some k_ ≠ ((.slice Ao6 y198.length co6) : Value).ownBlock ∧ k_ ≠ gb197) (.slice A0_3 l0_3.length c0_3) l0_3) ∧ Aside0 (w'.heap[gb197]? = some (.cells #[.int .i64 a0_0, .int .i64 a0_1, (.slice A0_2 l0_2.length c0_2), (.slice A0_3 l0_3.length c0_3)] 46 (0, 0))) ∧ Aside0 (Below w.heap.size w w'))
 case atStart => exact ⟨(0), Bb_2, H', ⟨Nat.le_refl _⟩, ⟨(by (with_reducible repeat (first | apply Kd.N_alloc | apply Kd.N_drewN | apply Kd.N_drew)); exact HO200.out)⟩, ⟨(by (with_reducible repeat (first | apply Kd.V_alloc | apply Kd.V_drewN | apply Kd.V_drew)); exact Kd.V_mono HO0_2.out (fun _ hk => ⟨hk.1.1, ⟨hk.2, hk.1.2⟩⟩))⟩, ⟨(by (with_reducible repeat (first | apply Kd.V_alloc | apply Kd.V_drewN | apply Kd.V_drew)); exact Kd.V_mono HO0_3.out (fun _ hk => ⟨hk.1.1, ⟨hk.2, hk.1.2⟩⟩))⟩, ⟨Bb_5⟩, ⟨hb_⟩⟩
 case round =>
  clear H'; try clear p2; try clear hz3
  obtain ⟨x13_1, rfl, HA, HK1, HO_11, HO_198002, HO_198003, BK197, HB⟩ := hrel; cases gk with
  | zero => exact absurd HA.out (by simp [impl_SquaresOf.l0])
  | succ k1 =>
   have H := HA.out; clear HA; simp only [impl_SquaresOf.l0] at H; by_cases c7 : x13_1 < (y198.length : Int)
   ·rw [if_pos c7] at H
    have c7b0 : decide (x13_1 < (y198.length : Int)) = true := decide_eq_true c7; clear c7; by_cases c8 : 0 ≤ x13_1
    ·rw [if_pos c8] at H
     have c8b0 : decide (0 ≤ x13_1) = true := decide_eq_true c8; clear c8; by_cases c9 : x13_1 < (y198.length : Int)
     ·rw [if_pos c9] at H
      have c9b0 : decide (x13_1 < (y198.length : Int)) = true := decide_eq_true c9; clear c9; replace H := Option.bind_eq_some_iff.mp H; obtain ⟨t204, A100, H⟩ := H; try dsimp only at H
      have A10 := Aside0.mk A100; clear A100; have HC11 := Aside0.mk H; clear H; have p203 : 0 ≤ (x13_1 : Int) := of_decide_eq_true Bb_1; have q203 : x13_1 < (y198.length : Int) := of_decide_eq_true Bb_1; obtain ⟨ad203, A203_0, c203_0, e203, hx203_0, hl203_0, hi203_0⟩ := at_L2 (Kd.N_reads' HO_11.out).2.2 x13_1 p203 q203; cases e203; obtain ⟨ce203, hce203, hMe203, hcc203⟩ := Kd.N_get HO_11.out [] x13_1 p203 (by first | exact q203 | exact of_decide_eq_true Bb_1 | (have e_ := (Kd.N_reads' HO_11.out).1; omega)); obtain ⟨ua203_0, uc203_0, rfl, ul203_0, ge203_0⟩ := Kd.FK_slice_open hMe203; have hv203_0 := hcc203 0 _ rfl; rw [Nat.add_zero, show ((Kd.slice 3 (Kd.int .i64))).sz = 1 from rfl, Nat.mul_one] at hv203_0; replace hv203_0 := Option.some.inj (hv203_0.symm.trans hx203_0); injection hv203_0 with hva_ hvn_ hvc_
      rw [hva_] at ge203_0; rw [hvc_] at ul203_0; have HL203_0 := Aside0.mk (show Kd.V (Kd.int .i64) 3 _ w.heap.size _ _ (rd_L2 y198 x13_1) from Kd.V_mk ul203_0 ge203_0); clear hva_ hvn_ hvc_ ge203_0 ul203_0; clear hcc203 hce203; have HR203_0 := Aside0.mk hi203_0; have HC203_0 := Aside0.mk hl203_0; clear hi203_0 hl203_0; replace p203 := eq_true p203; replace q203 := eq_true q203; go_upto_if 20 with (first | (go_at_call 71; (with_reducible refine (impl_within.calls ((rd_L2 y198 x13_1).length : Int) 1 4 t204 _ A10.out).mono ?_); rintro e w' ⟨rfl, ⟨nd, rfl⟩⟩; (try first | exact ⟨rfl, _, World.drewN_drewN _ _ _⟩ | exact ⟨rfl, _, Eq.trans (World.drewN_drewN _ _ _) (congrArg (World.drewN _) (Nat.add_assoc _ _ _))⟩)))
      repeat (go_quiet (first | (go_at_call 71; (with_reducible refine (impl_within.calls ((rd_L2 y198 x13_1).length : Int) 1 4 t204 _ A10.out).mono ?_); rintro e w' ⟨rfl, ⟨nd, rfl⟩⟩; (try first | exact ⟨rfl, _, World.drewN_drewN _ _ _⟩ | exact ⟨rfl, _, Eq.trans (World.drewN_drewN _ _ _) (congrArg (World.drewN _) (Nat.add_assoc _ _ _))⟩))); go_upto_if 20 with (first | (go_at_call 71; (with_reducible refine (impl_within.calls ((rd_L2 y198 x13_1).length : Int) 1 4 t204 _ A10.out).mono ?_); rintro e w' ⟨rfl, ⟨nd, rfl⟩⟩; (try first | exact ⟨rfl, _, World.drewN_drewN _ _ _⟩ | exact ⟨rfl, _, Eq.trans (World.drewN_drewN _ _ _) (congrArg (World.drewN _) (Nat.add_assoc _ _ _))⟩))))
      (try simp only [Act.put, List.setIfInBounds_toArray, List.set_cons_zero, List.set_cons_succ]); have H := HC11.out; clear HC11; by_cases c12 : t204 = true
      ·subst c12
       rw [if_pos rfl] at H; have H' := Aside0.mk H; clear H; go_wp2
       repeat (go_quiet (fail); try go_wp2)
       go_loopg [23] k1 (fun kq v23 w' => ∃ (x23_2 : Int), v23 = .int .i64 x23_2 ∧ Aside0 (impl_SquaresOf.l1 kq y198 (y198.length : Int) x13_1 (rd_L2 y198 x13_1) ((rd_L2 y198 x13_1).length : Int) x23_2 a0_0 a0_1 l0_2 l0_3 = some r) ∧ Aside0 (kq ≤ k1) ∧ Aside0 (Kd.N (Kd.slice 3 (Kd.int .i64)) 37 w' w.heap.size (fun k_ => ((P0_2_ k_ ∨ P0_3_ k_) ∨ w.heap.size ≤ k_) ∧ k_ ≠ gb197) (.slice (some ad203) y198.length co6) y198) ∧ Aside0 (Kd.V (Kd.int .i64) 3 w' w.heap.size (fun k_ => ((P0_2_ k_ ∨ P0_3_ k_) ∨ w.heap.size ≤ k_) ∧ some k_ ≠ ((.slice (some ad203) y198.length co6) : Value).ownBlock ∧ k_ ≠ gb197) (.slice A0_2 l0_2.length c0_2) l0_2) ∧ Aside0 (Kd.V (Kd.int .i64) 3 w' w.heap.size (fun k_ => ((P0_2_ k_ ∨ P0_3_ k_) ∨ w.heap.size ≤ k_) ∧ some k_ ≠ ((.slice (some ad203) y198.length co6) : Value).ownBlock ∧ k_ ≠ gb197) (.slice A0_3 l0_3.length c0_3) l0_3) ∧ Aside0 (w'.heap[gb197]? = some (.cells #[.int .i64 a0_0, .int .i64 a0_1, (.slice A0_2 l0_2.length c0_2), (.slice A0_3 l0_3.length c0_3)] 46 (0, 0))) ∧ Aside0 (Kd.C (Kd.int .i64) w' A203_0 (rd_L2 y198 x13_1).length (rd_L2 y198 x13_1)) ∧ Aside0 (Below w.heap.size w w'))
       case atStart => exact ⟨(0), Bb_2, H', ⟨Nat.le_refl _⟩, ⟨Bb_12⟩, ⟨Bb_9⟩, ⟨Bb_10⟩, ⟨Bb_5⟩, ⟨Bb_14⟩, ⟨hb_⟩⟩
       case round =>
        clear H'; try clear c1; try clear c2; try clear p2; try clear q2; try clear hx2; try clear c7; try clear c7b0; try clear c8; try clear c8b0; try clear c9; try clear c9b0; try clear c12; try clear hz3; try clear hx203_0; try clear p203; try clear q203
        obtain ⟨x23_2, rfl, HA, HK2, HO_11, HO_198002, HO_198003, BK197, HR203_0, HB⟩ := hrel; cases gk with
        | zero => exact absurd HA.out (by simp [impl_SquaresOf.l1])
        | succ k2 =>
         have H := HA.out; clear HA; simp only [impl_SquaresOf.l1] at H; by_cases c13 : x23_2 < ((rd_L2 y198 x13_1).length : Int)
         ·rw [if_pos c13] at H
          have c13b0 : decide (x23_2 < ((rd_L2 y198 x13_1).length : Int)) = true := decide_eq_true c13; clear c13; (first | rw [c13b0] | (simp only [i64_w, i32_w]; rw [c13b0]) | skip); by_cases c14 : 0 ≤ x23_2
          ·rw [if_pos c14] at H
           have c14b0 : decide (0 ≤ x23_2) = true := decide_eq_true c14; clear c14; by_cases c15 : x23_2 < ((rd_L2 y198 x13_1).length : Int)
           ·rw [if_pos c15] at H
            have c15b0 : decide (x23_2 < ((rd_L2 y198 x13_1).length : Int)) = true := decide_eq_true c15; clear c15; replace H := Option.bind_eq_some_iff.mp H; obtain ⟨t206, A160, H⟩ := H; try dsimp only at H
            have A16 := Aside0.mk A160; clear A160; have HC17 := Aside0.mk H; clear H; have p205 : 0 ≤ (x23_2 : Int) := of_decide_eq_true Bb_1; have q205 : x23_2 < ((rd_L2 y198 x13_1).length : Int) := of_decide_eq_true Bb_1; obtain ⟨ad205, e205, hx205_0⟩ := Kd.at_int HR203_0.out x23_2 p205 q205; cases e205; replace p205 := eq_true p205; replace q205 := eq_true q205; go_upto_if 29 with (first | (go_at_call 71; (with_reducible refine (impl_within.calls (rd (rd_L2 y198 x13_1) x23_2) 1 8 t206 _ A16.out).mono ?_); rintro e w' ⟨rfl, ⟨nd, rfl⟩⟩; (try first | exact ⟨rfl, _, World.drewN_drewN _ _ _⟩ | exact ⟨rfl, _, Eq.trans (World.drewN_drewN _ _ _) (congrArg (World.drewN _) (Nat.add_assoc _ _ _))⟩)))
            repeat (go_quiet (first | (go_at_call 71; (with_reducible refine (impl_within.calls (rd (rd_L2 y198 x13_1) x23_2) 1 8 t206 _ A16.out).mono ?_); rintro e w' ⟨rfl, ⟨nd, rfl⟩⟩; (try first | exact ⟨rfl, _, World.drewN_drewN _ _ _⟩ | exact ⟨rfl, _, Eq.trans (World.drewN_drewN _ _ _) (congrArg (World.drewN _) (Nat.add_assoc _ _ _))⟩))); go_upto_if 29 with (first | (go_at_call 71; (with_reducible refine (impl_within.calls (rd (rd_L2 y198 x13_1) x23_2) 1 8 t206 _ A16.out).mono ?_); rintro e w' ⟨rfl, ⟨nd, rfl⟩⟩; (try first | exact ⟨rfl, _, World.drewN_drewN _ _ _⟩ | exact ⟨rfl, _, Eq.trans (World.drewN_drewN _ _ _) (congrArg (World.drewN _) (Nat.add_assoc _ _ _))⟩))))
            (try simp only [Act.put, List.setIfInBounds_toArray, List.set_cons_zero, List.set_cons_succ]); have H := HC17.out; clear HC17; by_cases c18 : t206 = true
            ·subst c18
             rw [if_pos rfl] at H; have H' := Aside0.mk H; clear H; go_wp2
             repeat (go_quiet (fail); try go_wp2)
             go_roundg k2
             case measure => have := HK1.out; have := HK2.out; omega
             case rel => exact ⟨(wrap64 (x23_2 + 1)), Bb_2, H', ⟨(by have := HK1.out; have := HK2.out; omega)⟩, ⟨Bb_12⟩, ⟨Bb_9⟩, ⟨Bb_10⟩, ⟨Bb_5⟩, ⟨Bb_14⟩, ⟨hb_⟩⟩
            ·replace c18 := Bool.eq_false_iff.mpr c18
             subst c18; rw [if_neg (show ¬ (false = true) by decide)] at H; obtain rfl := Option.some.inj H; go_wp2
             repeat (go_quiet (fail); try go_wp2)
             go_ret; exact ⟨Bb_0, hb_⟩
           ·rw [if_neg c15] at H
            exact absurd H (by simp)
          ·rw [if_neg c14] at H
           exact absurd H (by simp)
         ·rw [if_neg c13] at H
          have c13b0 : decide (x23_2 < ((rd_L2 y198 x13_1).length : Int)) = false := decide_eq_false c13; clear c13; (first | rw [c13b0] | (simp only [i64_w, i32_w]; rw [c13b0]) | skip); have H' := Aside0.mk H; clear H; go_wp2
          repeat (go_quiet (fail); try go_wp2)
          go_roundg k2
          case measure => have := HK1.out; have := HK2.out; omega
          case rel => exact ⟨(wrap64 (x13_1 + 1)), Bb_2, H', ⟨(by have := HK1.out; have := HK2.out; omega)⟩, ⟨Bb_12⟩, ⟨Bb_9⟩, ⟨Bb_10⟩, ⟨Bb_5⟩, ⟨hb_⟩⟩
      ·replace c12 := Bool.eq_false_iff.mpr c12
       subst c12; rw [if_neg (show ¬ (false = true) by decide)] at H; obtain rfl := Option.some.inj H; go_wp2
       repeat (go_quiet (fail); try go_wp2)
       go_ret; exact ⟨Bb_0, hb_⟩
     ·rw [if_neg c9] at H
      exact absurd H (by simp)
    ·rw [if_neg c8] at H
     exact absurd H (by simp)
   ·rw [if_neg c7] at H
    have c7b0 : decide (x13_1 < (y198.length : Int)) = false := decide_eq_false c7; clear c7; replace H := Option.bind_eq_some_iff.mp H; obtain ⟨t201, A190, H⟩ := H; try dsimp only at H
    have A19 := Aside0.mk A190; clear A190; replace H := Option.bind_eq_some_iff.mp H; obtain ⟨t202, A200, H⟩ := H; try dsimp only at H
    have A20 := Aside0.mk A200; clear A200; obtain rfl := Option.some.inj H; have hz21 := bc4_ BK197.out; go_wp2_with (first | (go_at_call 129; (with_reducible refine (impl_sumOf.calls k1 _ _ l0_2 t201 _ ?side1 ?side2 A19.out).mono ?_); (case side1 => repeat (first | exact (Kd.V_reads' HO_198002.out).2.2 | (with_reducible refine Kd.C_alloc ?_ _) | (with_reducible refine Kd.C_drewN ?_ _) | (with_reducible refine Kd.C_drew ?_))); (case side2 => exact (Kd.V_reads' HO_198002.out).2.1); rintro e w' ⟨rfl, ⟨nd, rfl⟩⟩; (try first | exact ⟨rfl, _, World.drewN_drewN _ _ _⟩ | exact ⟨rfl, _, Eq.trans (World.drewN_drewN _ _ _) (congrArg (World.drewN _) (Nat.add_assoc _ _ _))⟩)) | (go_at_call 129; (with_reducible refine (impl_sumOf.calls k1 _ _ l0_3 t202 _ ?side1 ?side2 A20.out).mono ?_); (case side1 => repeat (first | exact (Kd.V_reads' HO_198003.out).2.2 | (with_reducible refine Kd.C_alloc ?_ _) | (with_reducible refine Kd.C_drewN ?_ _) | (with_reducible refine Kd.C_drew ?_))); (case side2 => exact (Kd.V_reads' HO_198003.out).2.1); rintro e w' ⟨rfl, ⟨nd, rfl⟩⟩; (try first | exact ⟨rfl, _, World.drewN_drewN _ _ _⟩ | exact ⟨rfl, _, Eq.trans (World.drewN_drewN _ _ _) (congrArg (World.drewN _) (Nat.add_assoc _ _ _))⟩)))
    repeat (go_quiet (first | (go_at_call 129; (with_reducible refine (impl_sumOf.calls k1 _ _ l0_2 t201 _ ?side1 ?side2 A19.out).mono ?_); (case side1 => repeat (first | exact (Kd.V_reads' HO_198002.out).2.2 | (with_reducible refine Kd.C_alloc ?_ _) | (with_reducible refine Kd.C_drewN ?_ _) | (with_reducible refine Kd.C_drew ?_))); (case side2 => exact (Kd.V_reads' HO_198002.out).2.1); rintro e w' ⟨rfl, ⟨nd, rfl⟩⟩; (try first | exact ⟨rfl, _, World.drewN_drewN _ _ _⟩ | exact ⟨rfl, _, Eq.trans (World.drewN_drewN _ _ _) (congrArg (World.drewN _) (Nat.add_assoc _ _ _))⟩)) | (go_at_call 129; (with_reducible refine (impl_sumOf.calls k1 _ _ l0_3 t202 _ ?side1 ?side2 A20.out).mono ?_); (case side1 => repeat (first | exact (Kd.V_reads' HO_198003.out).2.2 | (with_reducible refine Kd.C_alloc ?_ _) | (with_reducible refine Kd.C_drewN ?_ _) | (with_reducible refine Kd.C_drew ?_))); (case side2 => exact (Kd.V_reads' HO_198003.out).2.1); rintro e w' ⟨rfl, ⟨nd, rfl⟩⟩; (try first | exact ⟨rfl, _, World.drewN_drewN _ _ _⟩ | exact ⟨rfl, _, Eq.trans (World.drewN_drewN _ _ _) (congrArg (World.drewN _) (Nat.add_assoc _ _ _))⟩))); try go_wp2_with (first | (go_at_call 129; (with_reducible refine (impl_sumOf.calls k1 _ _ l0_2 t201 _ ?side1 ?side2 A19.out).mono ?_); (case side1 => repeat (first | exact (Kd.V_reads' HO_198002.out).2.2 | (with_reducible refine Kd.C_alloc ?_ _) | (with_reducible refine Kd.C_drewN ?_ _) | (with_reducible refine Kd.C_drew ?_))); (case side2 => exact (Kd.V_reads' HO_198002.out).2.1); rintro e w' ⟨rfl, ⟨nd, rfl⟩⟩; (try first | exact ⟨rfl, _, World.drewN_drewN _ _ _⟩ | exact ⟨rfl, _, Eq.trans (World.drewN_drewN _ _ _) (congrArg (World.drewN _) (Nat.add_assoc _ _ _))⟩)) | (go_at_call 129; (with_reducible refine (impl_sumOf.calls k1 _ _ l0_3 t202 _ ?side1 ?side2 A20.out).mono ?_); (case side1 => repeat (first | exact (Kd.V_reads' HO_198003.out).2.2 | (with_reducible refine Kd.C_alloc ?_ _) | (with_reducible refine Kd.C_drewN ?_ _) | (with_reducible refine Kd.C_drew ?_))); (case side2 => exact (Kd.V_reads' HO_198003.out).2.1); rintro e w' ⟨rfl, ⟨nd, rfl⟩⟩; (try first | exact ⟨rfl, _, World.drewN_drewN _ _ _⟩ | exact ⟨rfl, _, Eq.trans (World.drewN_drewN _ _ _) (congrArg (World.drewN _) (Nat.add_assoc _ _ _))⟩))))
    go_ret; exact ⟨Bb_0, hb_⟩
end Go.Proofs.Ytjmhhgnknjfnlaa.PFnLayouts
namespace Go.Proofs.Ytjmhhgnknjfnlaa.PFnLayouts
open Go.RowKit Go.Proofs.YtjmhhgnknjfnlaaW.PrintWords Go.Proofs.YtjmhhgnknjfnlaaW.PrintLast Go.Proofs.YtjmhhgnknjfnlaaW.PrintMore
attribute [local go_sem] max2_int min2_int max_two min_two max_three min_three max_four min_four
set_option linter.unusedVariables false
set_option linter.unusedSimpArgs false
def impl_LevelSquares.f (a0 : Int) : Option (Int) := (impl_within.f a0 1 3).bind fun t207 => (if t207 = true then ((some (([16, 64, 256] : List Int) : List Int)).bind fun y208 => (if 0 ≤ (wrap64 (a0 - 1)) then (if (wrap64 (a0 - 1)) < (y208.length : Int) then (some (rd y208 (wrap64 (a0 - 1)))) else (none)) else (none))) else (some 0))
set_option maxHeartbeats 8000000 in
set_option maxRecDepth 100000 in
theorem impl_LevelSquares.calls (a0 : Int) (r : Int) (w : World) (h : impl_LevelSquares.f a0 = some r) :
  Calls Try.prog 87 #[.int .i64 a0] w fun e w' => e = .returned (.int .i64 r) ∧ Below w.heap.size w w' := by
 have HB := Aside0.mk (Below.refl w.heap.size w); have H : ((impl_within.f a0 1 3).bind fun t207 => (if t207 = true then ((some (([16, 64, 256] : List Int) : List Int)).bind fun y208 => (if 0 ≤ (wrap64 (a0 - 1)) then (if (wrap64 (a0 - 1)) < (y208.length : Int) then (some (rd y208 (wrap64 (a0 - 1)))) else (none)) else (none))) else (some 0))) = some r := h; clear h; replace H := Option.bind_eq_some_iff.mp H; obtain ⟨t207, A20, H⟩ := H; try dsimp only at H
 have A2 := Aside0.mk A20; clear A20; have HC3 := Aside0.mk H; clear H; go_enter Try.func87, Try.ntmps87; go_upto_if 5 with (first | ((with_reducible refine gate_callee (f := 71) rfl ?_); refine gA_ (some 4) Try.func71 (impl_within.calls _ _ _ _ _ A2.out) ?_; rintro e w' ⟨rfl, ⟨nd, rfl⟩⟩; refine ⟨_, rfl, ?_⟩))
 (try simp only [Act.put, List.setIfInBounds_toArray, List.set_cons_zero, List.set_cons_succ]); have H := HC3.out; clear HC3; by_cases c4 : t207 = true
 ·subst c4
  rw [if_pos rfl] at H; obtain ⟨y208, hy208⟩ : ∃ y_ : List Int, y_ = (([16, 64, 256] : List Int)) := ⟨_, rfl⟩; replace H : (if 0 ≤ (wrap64 (a0 - 1)) then (if (wrap64 (a0 - 1)) < (y208.length : Int) then (some (rd y208 (wrap64 (a0 - 1)))) else (none)) else (none)) = some r := by first | (rw [hy208]; with_reducible exact H) | (have H2_ := (Option.bind_some _ _).symm.trans H; rw [hy208]; with_reducible exact H2_) | (have H2_ := (Option.bind_some _ _).symm.trans H; with_reducible exact H2_) | with_reducible exact H | (rw [hy208]; exact H) | exact H
  have Ny208 := Aside0.mk hy208; clear hy208; obtain ⟨ji5, hji5⟩ : ∃ j_ : Int, (wrap64 (a0 - 1)) = j_ := ⟨_, rfl⟩; (first | rw [hji5] at H | simp only [hji5] at H); have hji5w : (IntKind.i64.wrap (a0 - 1)) = ji5 := (i64_w _).trans hji5; by_cases c6 : 0 ≤ (ji5)
  ·rw [if_pos c6] at H
   have c6b0 : decide (0 ≤ (ji5)) = true := decide_eq_true c6; clear c6; (first | rw [c6b0] | (simp only [i64_w, i32_w]; rw [c6b0]) | skip); by_cases c7 : (ji5) < (y208.length : Int)
   ·rw [if_pos c7] at H
    have c7b0 : decide ((ji5) < (y208.length : Int)) = true := decide_eq_true c7; clear c7; obtain rfl := Option.some.inj H; go_wp2_with (first | ((with_reducible refine gate_dst (N := 6) rfl ?_); refine Kd.R_lit (Kd.int .i64) _ 3 ?hg (N := 6) ?hd (xs := ([16, 64, 256] : List Int)) (inner := [.int .i64 16, .int .i64 64, .int .i64 256]) (ok := fun _ => True) (okp := fun _ => True) ?hr ?hp (fun _ hk => hk) trivial (Below.refl _ _) (Nat.le_refl _) (by simp) ?_; (case hd => rfl); (case hg => rfl); (case hr => first | (go_simp; done) | (go_simp; rfl)); (case hp => exact (Reps.one (show Kd.M (Kd.int .i64) _ _ _ 16 [.int .i64 16] from rfl) (Reps.one (show Kd.M (Kd.int .i64) _ _ _ 64 [.int .i64 64] from rfl) (Reps.one (show Kd.M (Kd.int .i64) _ _ _ 256 [.int .i64 256] from rfl) (Reps.none _ _))))); intro v209 w8 ho9 hb hg_ hnew_; clear hg_ hnew_; (first | rw [← Ny208.out] at ho9 | (simp only [Int.reduceToNat] at ho9; rw [← Ny208.out] at ho9)); have HO210 := Aside0.mk (Kd.R_lower ho9 (below_size hb_)); replace HB := Aside0.mk (below_step hb_ hb); clear hb ho9; obtain ⟨Ao10, co10, eo10⟩ := Kd.R_slice HO210.out; subst eo10; have p211 : 0 ≤ ((ji5) : Int) := of_decide_eq_true Bb_1; have q211 : (ji5) < (y208.length : Int) := of_decide_eq_true Bb_1; obtain ⟨ad211, e211, hx211_0⟩ := Kd.at_int (Kd.R_reads' HO210.out).2.2 (ji5) p211 q211; cases e211; replace p211 := eq_true p211; replace q211 := eq_true q211)); go_ret; exact ⟨(by first | rfl | (simp [errW_none, errW_some] <;> rfl) | (simp only [← hji5]; first | rfl | (simp [errW_none, errW_some] <;> rfl)) | (simp [*, errW_none, errW_some] <;> rfl)), hb_⟩
   ·rw [if_neg c7] at H
    exact absurd H (by simp)
  ·rw [if_neg c6] at H
   exact absurd H (by simp)
 ·replace c4 := Bool.eq_false_iff.mpr c4
  subst c4; rw [if_neg (show ¬ (false = true) by decide)] at H; obtain rfl := Option.some.inj H; go_wp2; go_ret; exact ⟨Bb_0, hb_⟩
end Go.Proofs.Ytjmhhgnknjfnlaa.PFnLayouts
namespace Go.Proofs.Ytjmhhgnknjfnlaa.PFnLayouts
open Go.RowKit Go.Proofs.YtjmhhgnknjfnlaaW.PrintWords Go.Proofs.YtjmhhgnknjfnlaaW.PrintLast Go.Proofs.YtjmhhgnknjfnlaaW.PrintMore
attribute [local go_sem] max2_int min2_int max_two min_two max_three min_three max_four min_four
set_option linter.unusedVariables false
set_option linter.unusedSimpArgs false
def impl_SeqOk.f (k : Nat) (a0_0 : Int) (a0_1 : Int) (l0_2 : List Int) (l0_3 : List Int) : Option (Bool) := (impl_SquaresOf.f k a0_0 a0_1 l0_2 l0_3).bind fun t213 => ((impl_LevelSquares.f a0_0).bind fun t214 => ((impl_within.f t213 1 t214).bind fun t215 => (if t215 = true then ((impl_within.f a0_1 3 8).bind fun t216 => (some t216)) else (some false))))
theorem impl_SeqOk.mono : ∀ a0 a1 a2 a3 k, LeO (impl_SeqOk.f k a0 a1 a2 a3) (impl_SeqOk.f (k + 1) a0 a1 a2 a3) := by
 intro a0 a1 a2 a3 k; unfold impl_SeqOk.f
 repeat' first
   | (with_reducible exact impl_SquaresOf.mono _ _ _ _ _)
   | (with_reducible exact LeO.refl _)
   | (with_reducible exact LeO.none _)
   | (with_reducible refine LeO.ite ?_ ?_)
   | (with_reducible refine LeO.bind ?_ (fun _ => ?_))
   | exact impl_SquaresOf.mono _ _ _ _ _
   | exact LeO.none _
   | refine LeO.ite ?_ ?_
   | refine LeO.bind ?_ (fun _ => ?_)
def impl_SeqOk.T1 : Bool × List (List Nat × List Nat) := (true, [([], []), ([0], [0]), ([], []), ([2], [2]), ([3, 1], [3]), ([1, 4, 4], [1, 4]), ([5, 5], [5]), ([6], [6]), ([7, 6], [6, 7]), ([8, 6, 6], [6, 8]), ([6, 9], [6, 9]), ([10, 9, 0, 1, 2, 3, 4, 5, 6, 7, 8, 9, 10], [10])])
def impl_SeqOk.B1 : List Nat := [0, 1, 0, 4, 15, 31, 63, 127, 255, 511, 1023, 2047]
theorem impl_SeqOk.tab1 : rtab .any (opsOf Try.f28 1) = impl_SeqOk.T1 := by kernel_rfl
theorem impl_SeqOk.bits1 : waitsOk impl_SeqOk.T1.2 impl_SeqOk.B1 = true := by kernel_rfl
set_option maxHeartbeats 8000000 in
set_option maxRecDepth 100000 in
theorem impl_SeqOk.calls (k : Nat) (a0_0 : Int) (a0_1 : Int) (A0_2 : Option Addr) (c0_2 : Nat) (l0_2 : List Int) (A0_3 : Option Addr) (c0_3 : Nat) (l0_3 : List Int) (r : Bool) (w : World) (hr0_2 : Kd.C (Kd.int .i64) w A0_2 l0_2.length l0_2) (hc0_2 : l0_2.length ≤ c0_2) (hr0_3 : Kd.C (Kd.int .i64) w A0_3 l0_3.length l0_3) (hc0_3 : l0_3.length ≤ c0_3) (h : impl_SeqOk.f k a0_0 a0_1 l0_2 l0_3 = some r) :
  Calls Try.prog 28 #[.agg #[.int .i64 a0_0, .int .i64 a0_1, .slice A0_2 l0_2.length c0_2, .slice A0_3 l0_3.length c0_3]] w fun e w' => e = .returned (.bool r) ∧ Below w.heap.size w w' := by
 have hu46 := Try.underlying46; have HR0_2 := Aside0.mk hr0_2; have HC0_2 := Aside0.mk hc0_2; clear hr0_2 hc0_2; have HR0_3 := Aside0.mk hr0_3; have HC0_3 := Aside0.mk hc0_3; clear hr0_3 hc0_3; have HB := Aside0.mk (Below.refl w.heap.size w); have H : ((impl_SquaresOf.f k a0_0 a0_1 l0_2 l0_3).bind fun t213 => ((impl_LevelSquares.f a0_0).bind fun t214 => ((impl_within.f t213 1 t214).bind fun t215 => (if t215 = true then ((impl_within.f a0_1 3 8).bind fun t216 => (some t216)) else (some false))))) = some r := h; clear h; replace H := Option.bind_eq_some_iff.mp H; obtain ⟨t213, A20, H⟩ := H; try dsimp only at H
 have A2 := Aside0.mk A20; clear A20; replace H := Option.bind_eq_some_iff.mp H; obtain ⟨t214, A30, H⟩ := H; try dsimp only at H
 have A3 := Aside0.mk A30; clear A30; replace H := Option.bind_eq_some_iff.mp H; obtain ⟨t215, A40, H⟩ := H; try dsimp only at H
 have A4 := Aside0.mk A40; clear A40; by_cases c5 : t215 = true
 ·subst c5
  rw [if_pos rfl] at H; replace H := Option.bind_eq_some_iff.mp H; obtain ⟨t216, A60, H⟩ := H; try dsimp only at H
  have A6 := Aside0.mk A60; clear A60; obtain rfl := Option.some.inj H; go_enter Try.func28, Try.ntmps28; try go_wp2_with (first | ((with_reducible refine gate_dst (N := 1) rfl ?_); refine bx_ (N := 1) (cs := #[.int .i64 a0_0, .int .i64 a0_1, .slice A0_2 l0_2.length c0_2, .slice A0_3 l0_3.length c0_3]) (t := 46) ?_; intro gb212 hg w7 hbox hb; have BK212 := Aside0.mk (hbox); have GW212 := gw_ hg hb_; have GE212 := gw_ hg hb_; replace HB := Aside0.mk (below_step hb_ hb); clear hb hbox hg))
  replace BK212 := Aside0.mk (blk_drew BK212.out); replace HB := Aside0.mk (below_drew1 HB.out); refine start_ (n := 12) (S := fun w' => w'.cell? ⟨gb212, 0, none⟩ = some (.int .i64 a0_0) ∧ w'.cell? ⟨gb212, 1, none⟩ = some (.int .i64 a0_1) ∧ w'.cell? ⟨gb212, 2, none⟩ = some (.slice A0_2 l0_2.length c0_2) ∧ w'.cell? ⟨gb212, 3, none⟩ = some (.slice A0_3 l0_3.length c0_3)) (ds := []) u12_0 (by kernel_rfl) rfl rfl ⟨(blk_cell BK212.out 0).trans rfl, (blk_cell BK212.out 1).trans rfl, (blk_cell BK212.out 2).trans rfl, (blk_cell BK212.out 3).trans rfl⟩ (fun hHeld => ?_); refine with_tabW impl_SeqOk.tab1 impl_SeqOk.bits1 (fun HT_ HW_ => ?_); generalize w7.drew = w8 at BK212 HB hHeld ⊢
  refine pu_ HT_.out 2 (some 5) u12_200x ?_; refine take_ (i := 0) (N := some 3) (v := ?_) (a' := ?_) u12_a00x rfl rfl (take_ofW HT_.out HW_.out (by kernel_rfl)) (fun _ _ _ h => h) (Or.inl ⟨(by rfl), ?_⟩) hHeld ?_ ?_; rotate_left
  ·rintro w' ⟨s0, s1, s2, s3⟩
   go_simp; with_reducible rfl
  rotate_left
  ·simp only [Act.put, List.setIfInBounds_toArray, List.set_cons_zero, List.set_cons_succ, i64_w, i32_w]
   rfl
  refine take_ (i := 3) (N := some 6) (v := ?_) (a' := ?_) u12_b00x rfl rfl (take_ofW HT_.out HW_.out (by kernel_rfl)) (fun _ _ _ h => h) (Or.inl ⟨(by rfl), ?_⟩) hHeld ?_ ?_; rotate_left
  ·rintro w' ⟨s0, s1, s2, s3⟩
   go_simp; with_reducible rfl
  rotate_left
  ·simp only [Act.put, List.setIfInBounds_toArray, List.set_cons_zero, List.set_cons_succ, i64_w, i32_w]
   rfl
  refine one_ (i := 1) (N := some 4) u12_4 rfl rfl (one_of HT_.out (by kernel_rfl)) (by decide) (fun K hK => ?_); refine goes_ Try.func86 (by kernel_rfl) rfl #[.agg #[.int .i64 a0_0, .int .i64 a0_1, .slice A0_2 l0_2.length c0_2, .slice A0_3 l0_3.length c0_3]] (by rfl) rfl rfl Bb_3 ?_; with_reducible refine (impl_SquaresOf.calls k a0_0 a0_1 (fun k_ => k_ < w.heap.size) _ _ l0_2 (fun k_ => k_ < w.heap.size) _ _ l0_3 t213 _ ?side1 ?side2 A2.out).mono ?_
  (case side1 => exact Kd.V_mk HC0_2.out (Kd.F_below (Kd.C_F (Kd.heap_int .i64) HR0_2.out) hb_)); (case side2 => exact Kd.V_mk HC0_3.out (Kd.F_below (Kd.C_F (Kd.heap_int .i64) HR0_3.out) hb_)); rintro e w9 ⟨rfl, hb⟩; refine ⟨_, rfl, ?_⟩; replace BK212 := bb_ BK212 hb; replace HB := Aside0.mk (below_step hb_ hb); (try clear hb); (try clear hb2); (try clear hk); (try clear hi); refine hK.out _ _ Bb_4 (fun hHeld => ?_); clear hK K; refine no_ 4 ?_; refine one_ (i := 4) (N := some 7) u12_5 rfl rfl (one_of HT_.out (by kernel_rfl)) (by decide) (fun K hK => ?_); refine goes_ Try.func87 (by kernel_rfl) rfl #[.int .i64 a0_0] (by rfl) rfl rfl Bb_3 ?_; with_reducible refine (impl_LevelSquares.calls a0_0 t214 _ A3.out).mono ?_
  rintro e w10 ⟨rfl, hb⟩; refine ⟨_, rfl, ?_⟩; replace BK212 := bb_ BK212 hb; replace HB := Aside0.mk (below_step hb_ hb); (try clear hb); (try clear hb2); (try clear hk); (try clear hi); refine hK.out _ _ Bb_4 (fun hHeld => ?_); clear hK K; refine no_ 7 ?_; refine one_ (i := 5) (N := some 8) u12_6 rfl rfl (one_of HT_.out (by kernel_rfl)) (by decide) (fun K hK => ?_); refine goes_ Try.func71 (by kernel_rfl) rfl #[.int .i64 t213, .int .i64 1, .int .i64 t214] (by rfl) rfl rfl Bb_3 ?_; with_reducible refine (impl_within.calls t213 1 t214 true _ A4.out).mono ?_
  rintro e w' ⟨rfl, ⟨nd, rfl⟩⟩; refine ⟨_, rfl, ?_⟩; refine hK.out _ _ Bb_4 (fun hHeld => ?_); clear hK K; refine no_ 8 ?_; refine pu_ HT_.out 6 (some 9) u12_7 ?_; refine pu_ HT_.out 7 (some 10) u12_8 ?_; refine take_ (i := 8) (N := some 11) (v := ?_) (a' := ?_) u12_9 rfl rfl (take_ofW HT_.out HW_.out (by kernel_rfl)) (fun _ _ _ h => h) (Or.inl ⟨(by rfl), ?_⟩) hHeld ?_ ?_; rotate_left
  ·rintro w' ⟨s0, s1, s2, s3⟩
   go_simp; with_reducible rfl
  rotate_left
  ·simp only [Act.put, List.setIfInBounds_toArray, List.set_cons_zero, List.set_cons_succ, i64_w, i32_w]
   rfl
  refine one_ (i := 9) (N := some 12) u12_10 rfl rfl (one_of HT_.out (by kernel_rfl)) (by decide) (fun K hK => ?_); refine goes_ Try.func71 (by kernel_rfl) rfl #[.int .i64 a0_1, .int .i64 3, .int .i64 8] (by rfl) rfl rfl Bb_3 ?_; with_reducible refine (impl_within.calls a0_1 3 8 t216 _ A6.out).mono ?_
  rintro e w' ⟨rfl, ⟨nd, rfl⟩⟩; refine ⟨_, rfl, ?_⟩; refine hK.out _ _ Bb_4 (fun hHeld => ?_); clear hK K; refine no_ 12 ?_; refine pu_ HT_.out 10 (some 13) u12_11 ?_; refine pu_ HT_.out 11 (some 2) u12_12 ?_; refine done_ (done_of HT_.out (by kernel_rfl)) ?_; try go_wp2
  go_ret; exact ⟨Bb_0, hb_⟩
 ·replace c5 := Bool.eq_false_iff.mpr c5
  subst c5; rw [if_neg (show ¬ (false = true) by decide)] at H; obtain rfl := Option.some.inj H; go_enter Try.func28, Try.ntmps28; try go_wp2_with (first | ((with_reducible refine gate_dst (N := 1) rfl ?_); refine bx_ (N := 1) (cs := #[.int .i64 a0_0, .int .i64 a0_1, .slice A0_2 l0_2.length c0_2, .slice A0_3 l0_3.length c0_3]) (t := 46) ?_; intro gb212 hg w11 hbox hb; have BK212 := Aside0.mk (hbox); have GW212 := gw_ hg hb_; have GE212 := gw_ hg hb_; replace HB := Aside0.mk (below_step hb_ hb); clear hb hbox hg))
  replace BK212 := Aside0.mk (blk_drew BK212.out); replace HB := Aside0.mk (below_drew1 HB.out); refine start_ (n := 12) (S := fun w' => w'.cell? ⟨gb212, 0, none⟩ = some (.int .i64 a0_0) ∧ w'.cell? ⟨gb212, 1, none⟩ = some (.int .i64 a0_1) ∧ w'.cell? ⟨gb212, 2, none⟩ = some (.slice A0_2 l0_2.length c0_2) ∧ w'.cell? ⟨gb212, 3, none⟩ = some (.slice A0_3 l0_3.length c0_3)) (ds := []) u12_0 (by kernel_rfl) rfl rfl ⟨(blk_cell BK212.out 0).trans rfl, (blk_cell BK212.out 1).trans rfl, (blk_cell BK212.out 2).trans rfl, (blk_cell BK212.out 3).trans rfl⟩ (fun hHeld => ?_); refine with_tabW impl_SeqOk.tab1 impl_SeqOk.bits1 (fun HT_ HW_ => ?_); generalize w11.drew = w12 at BK212 HB hHeld ⊢
  refine pu_ HT_.out 2 (some 5) u12_200x ?_; refine take_ (i := 0) (N := some 3) (v := ?_) (a' := ?_) u12_a00x rfl rfl (take_ofW HT_.out HW_.out (by kernel_rfl)) (fun _ _ _ h => h) (Or.inl ⟨(by rfl), ?_⟩) hHeld ?_ ?_; rotate_left
  ·rintro w' ⟨s0, s1, s2, s3⟩
   go_simp; with_reducible rfl
  rotate_left
  ·simp only [Act.put, List.setIfInBounds_toArray, List.set_cons_zero, List.set_cons_succ, i64_w, i32_w]
   rfl
  refine take_ (i := 3) (N := some 6) (v := ?_) (a' := ?_) u12_b00x rfl rfl (take_ofW HT_.out HW_.out (by kernel_rfl)) (fun _ _ _ h => h) (Or.inl ⟨(by rfl), ?_⟩) hHeld ?_ ?_; rotate_left
  ·rintro w' ⟨s0, s1, s2, s3⟩
   go_simp; with_reducible rfl
  rotate_left
  ·simp only [Act.put, List.setIfInBounds_toArray, List.set_cons_zero, List.set_cons_succ, i64_w, i32_w]
   rfl
  refine one_ (i := 1) (N := some 4) u12_4 rfl rfl (one_of HT_.out (by kernel_rfl)) (by decide) (fun K hK => ?_); refine goes_ Try.func86 (by kernel_rfl) rfl #[.agg #[.int .i64 a0_0, .int .i64 a0_1, .slice A0_2 l0_2.length c0_2, .slice A0_3 l0_3.length c0_3]] (by rfl) rfl rfl Bb_3 ?_; with_reducible refine (impl_SquaresOf.calls k a0_0 a0_1 (fun k_ => k_ < w.heap.size) _ _ l0_2 (fun k_ => k_ < w.heap.size) _ _ l0_3 t213 _ ?side1 ?side2 A2.out).mono ?_
  (case side1 => exact Kd.V_mk HC0_2.out (Kd.F_below (Kd.C_F (Kd.heap_int .i64) HR0_2.out) hb_)); (case side2 => exact Kd.V_mk HC0_3.out (Kd.F_below (Kd.C_F (Kd.heap_int .i64) HR0_3.out) hb_)); rintro e w13 ⟨rfl, hb⟩; refine ⟨_, rfl, ?_⟩; replace BK212 := bb_ BK212 hb; replace HB := Aside0.mk (below_step hb_ hb); (try clear hb); (try clear hb2); (try clear hk); (try clear hi); refine hK.out _ _ Bb_4 (fun hHeld => ?_); clear hK K; refine no_ 4 ?_; refine one_ (i := 4) (N := some 7) u12_5 rfl rfl (one_of HT_.out (by kernel_rfl)) (by decide) (fun K hK => ?_); refine goes_ Try.func87 (by kernel_rfl) rfl #[.int .i64 a0_0] (by rfl) rfl rfl Bb_3 ?_; with_reducible refine (impl_LevelSquares.calls a0_0 t214 _ A3.out).mono ?_
  rintro e w14 ⟨rfl, hb⟩; refine ⟨_, rfl, ?_⟩; replace BK212 := bb_ BK212 hb; replace HB := Aside0.mk (below_step hb_ hb); (try clear hb); (try clear hb2); (try clear hk); (try clear hi); refine hK.out _ _ Bb_4 (fun hHeld => ?_); clear hK K; refine no_ 7 ?_; refine one_ (i := 5) (N := some 8) u12_6 rfl rfl (one_of HT_.out (by kernel_rfl)) (by decide) (fun K hK => ?_); refine goes_ Try.func71 (by kernel_rfl) rfl #[.int .i64 t213, .int .i64 1, .int .i64 t214] (by rfl) rfl rfl Bb_3 ?_; with_reducible refine (impl_within.calls t213 1 t214 false _ A4.out).mono ?_
  rintro e w' ⟨rfl, ⟨nd, rfl⟩⟩; refine ⟨_, rfl, ?_⟩; refine hK.out _ _ Bb_4 (fun hHeld => ?_); clear hK K; refine no_ 8 ?_; refine pu_ HT_.out 6 (some 9) u12_7 ?_; refine pz_ HT_.out 7 (some 10) u12_8 ?_; refine pz_ HT_.out 8 (some 11) u12_9 ?_; refine pz_ HT_.out 9 (some 12) u12_10 ?_; refine pu_ HT_.out 10 (some 13) u12_11 ?_; refine pu_ HT_.out 11 (some 2) u12_12 ?_; refine done_ (done_of HT_.out (by kernel_rfl)) ?_; try go_wp2
  go_ret; exact ⟨Bb_0, hb_⟩
end Go.Proofs.Ytjmhhgnknjfnlaa.PFnLayouts
namespace Go.Proofs.Ytjmhhgnknjfnlaa.PFnLayouts
open Go.RowKit Go.Proofs.YtjmhhgnknjfnlaaW.PrintWords Go.Proofs.YtjmhhgnknjfnlaaW.PrintLast Go.Proofs.YtjmhhgnknjfnlaaW.PrintMore
attribute [local go_sem] max2_int min2_int max_two min_two max_three min_three max_four min_four
set_option linter.unusedVariables false
set_option linter.unusedSimpArgs false
def impl_LevelFor.l0 : Nat → List Int → List Int → Int → Option (Int)
 | 0, _, _, _ => none
 | k + 1, x0, x1, x5 => if x5 ≤ 3 then ((impl_SeqOk.f k x5 3 x0 x1).bind fun t217 => (if t217 = true then (some x5) else (impl_LevelFor.l0 k x0 x1 (wrap64 (x5 + 1))))) else (some 0)
def impl_LevelFor.f (k : Nat) (l0 : List Int) (l1 : List Int) : Option (Int) := impl_LevelFor.l0 k l0 l1 1
theorem impl_LevelFor.mono_l : ∀ k, (∀ y0 y1 y2, LeO (impl_LevelFor.l0 k y0 y1 y2) (impl_LevelFor.l0 (k + 1) y0 y1 y2))
 | 0 => fun _ _ _ r h => by simp [impl_LevelFor.l0] at h
 | k + 1 => by
  have ih0 := impl_LevelFor.mono_l k
  ·intro y0 y1 y2
   unfold impl_LevelFor.l0
   repeat' first
   | (with_reducible exact ih0 _ _ _)
   | (with_reducible exact impl_SeqOk.mono _ _ _ _ _)
   | (with_reducible exact LeO.refl _)
   | (with_reducible exact LeO.none _)
   | (with_reducible refine LeO.ite ?_ ?_)
   | (with_reducible refine LeO.bind ?_ (fun _ => ?_))
   | exact ih0 _ _ _
   | exact impl_SeqOk.mono _ _ _ _ _
   | exact LeO.none _
   | refine LeO.ite ?_ ?_
   | refine LeO.bind ?_ (fun _ => ?_)
theorem impl_LevelFor.mono : ∀ a0 a1 k, LeO (impl_LevelFor.f k a0 a1) (impl_LevelFor.f (k + 1) a0 a1) := by
 intro a0 a1 k; have ih0 := impl_LevelFor.mono_l k; unfold impl_LevelFor.f
 repeat' first
   | (with_reducible exact ih0 _ _ _)
   | (with_reducible exact impl_SeqOk.mono _ _ _ _ _)
   | (with_reducible exact LeO.refl _)
   | (with_reducible exact LeO.none _)
   | (with_reducible refine LeO.ite ?_ ?_)
   | (with_reducible refine LeO.bind ?_ (fun _ => ?_))
   | exact ih0 _ _ _
   | exact impl_SeqOk.mono _ _ _ _ _
   | exact LeO.none _
   | refine LeO.ite ?_ ?_
   | refine LeO.bind ?_ (fun _ => ?_)
set_option maxHeartbeats 8000000 in
set_option maxRecDepth 100000 in
theorem impl_LevelFor.calls (k : Nat) (A0 : Option Addr) (c0 : Nat) (l0 : List Int) (A1 : Option Addr) (c1 : Nat) (l1 : List Int) (r : Int) (w : World) (hr0 : Kd.C (Kd.int .i64) w A0 l0.length l0) (hc0 : l0.length ≤ c0) (hr1 : Kd.C (Kd.int .i64) w A1 l1.length l1) (hc1 : l1.length ≤ c1) (h : impl_LevelFor.f k l0 l1 = some r) :
  Calls Try.prog 83 #[.slice A0 l0.length c0, .slice A1 l1.length c1] w fun e w' => e = .returned (.int .i64 r) ∧ Below w.heap.size w w' := by
 have hu46 := Try.underlying46; have HR0 := Aside0.mk hr0; have HC0 := Aside0.mk hc0; clear hr0 hc0; have HR1 := Aside0.mk hr1; have HC1 := Aside0.mk hc1; clear hr1 hc1; have HB := Aside0.mk (Below.refl w.heap.size w); have H : (impl_LevelFor.l0 k l0 l1 1) = some r := h; clear h; have H' := Aside0.mk H; clear H; go_enter Try.func83, Try.ntmps83; go_wp2; go_loopg [5] k (fun kq v5 w' => ∃ (x5_1 : Int), v5 = .int .i64 x5_1 ∧ Aside0 (impl_LevelFor.l0 kq l0 l1 x5_1 = some r) ∧ Aside0 (kq ≤ k) ∧ Aside0 (Below w.heap.size w w'))
 case atStart => exact ⟨(1), Bb_2, H', ⟨Nat.le_refl _⟩, ⟨hb_⟩⟩
 case round =>
  clear H'; try clear c1; try clear p2
  obtain ⟨x5_1, rfl, HA, HK1, HB⟩ := hrel; cases gk with
  | zero => exact absurd HA.out (by simp [impl_LevelFor.l0])
  | succ k1 =>
   have H := HA.out; clear HA; simp only [impl_LevelFor.l0] at H; by_cases c3 : x5_1 ≤ 3
   ·rw [if_pos c3] at H
    have c3b0 : decide (x5_1 ≤ 3) = true := decide_eq_true c3; clear c3; replace H := Option.bind_eq_some_iff.mp H; obtain ⟨t217, A40, H⟩ := H; try dsimp only at H
    have A4 := Aside0.mk A40; clear A40; have HC5 := Aside0.mk H; clear H; go_upto_if 14 with (first | ((with_reducible refine gate_callee (f := 28) rfl ?_); refine gA_ (some 14) Try.func28 (impl_SeqOk.calls _ _ _ _ _ _ _ _ _ _ _ ?side1 ?side2 ?side3 ?side4 A4.out) ?_; (case side1 => repeat (first | exact (Kd.C_below HR0.out HB.out) | (with_reducible refine Kd.C_alloc ?_ _) | (with_reducible refine Kd.C_drewN ?_ _) | (with_reducible refine Kd.C_drew ?_))); (case side2 => exact HC0.out); (case side3 => repeat (first | exact (Kd.C_below HR1.out HB.out) | (with_reducible refine Kd.C_alloc ?_ _) | (with_reducible refine Kd.C_drewN ?_ _) | (with_reducible refine Kd.C_drew ?_))); (case side4 => exact HC1.out); rintro e w6 ⟨rfl, hb⟩; refine ⟨_, rfl, ?_⟩; replace HB := Aside0.mk (below_step hb_ hb); (try clear hb); (try clear hb2); (try clear hk); (try clear hi)))
    (try simp only [Act.put, List.setIfInBounds_toArray, List.set_cons_zero, List.set_cons_succ]); have H := HC5.out; clear HC5; by_cases c7 : t217 = true
    ·subst c7
     rw [if_pos rfl] at H; obtain rfl := Option.some.inj H; go_wp2; go_ret; exact ⟨Bb_0, hb_⟩
    ·replace c7 := Bool.eq_false_iff.mpr c7
     subst c7; rw [if_neg (show ¬ (false = true) by decide)] at H; have H' := Aside0.mk H; clear H; go_wp2; go_roundg k1
     case measure => have := HK1.out; omega
     case rel => exact ⟨(wrap64 (x5_1 + 1)), Bb_2, H', ⟨Bb_15⟩, ⟨hb_⟩⟩
   ·rw [if_neg c3] at H
    have c3b0 : decide (x5_1 ≤ 3) = false := decide_eq_false c3; clear c3; obtain rfl := Option.some.inj H; go_wp2; go_ret; exact ⟨Bb_0, hb_⟩
end Go.Proofs.Ytjmhhgnknjfnlaa.PFnLayouts
namespace Go.Proofs.Ytjmhhgnknjfnlaa.PFnLayouts
open Go.RowKit Go.Proofs.YtjmhhgnknjfnlaaW.PrintWords Go.Proofs.YtjmhhgnknjfnlaaW.PrintLast Go.Proofs.YtjmhhgnknjfnlaaW.PrintMore
attribute [local go_sem] max2_int min2_int max_two min_two max_three min_three max_four min_four
set_option linter.unusedVariables false
set_option linter.unusedSimpArgs false
mutual
def impl_LayoutOk.j0 : Nat → Bool → List Int → List Int → List Int → Option (Bool)
 | 0, _, _, _, _ => none
 | k + 1, x25, x219000, x219001, x219002 => if x25 = true then (some false) else (impl_LayoutOk.l0 k x219002 (x219002.length : Int) 0 x219000 x219001 x219002)
def impl_LayoutOk.l0 : Nat → List Int → Int → Int → List Int → List Int → List Int → Option (Bool)
 | 0, _, _, _, _, _, _ => none
 | k + 1, x27, x28, x29, x219000, x219001, x219002 => if x29 < x28 then (if 0 ≤ x29 then (if x29 < (x27.length : Int) then ((impl_within.f (rd x27 x29) (-1) 5).bind fun t221 => (if t221 = true then (if x29 ≤ (x219002.length : Int) then (impl_LayoutOk.l1 k (rd x27 x29) x27 x28 x29 (x219002.take (x29 : Int).toNat) ((x219002.take (x29 : Int).toNat).length : Int) 0 x219000 x219001 x219002) else (none)) else (some false))) else (none)) else (none)) else (some true)
def impl_LayoutOk.l1 : Nat → Int → List Int → Int → Int → List Int → Int → Int → List Int → List Int → List Int → Option (Bool)
 | 0, _, _, _, _, _, _, _, _, _, _ => none
 | k + 1, x4, x27, x28, x29, x40, x41, x42, x219000, x219001, x219002 => if x42 < x41 then (if 0 ≤ x42 then (if x42 < (x40.length : Int) then (if x4 ≥ 0 then (if (rd x40 x42) = x4 then (some false) else (impl_LayoutOk.l1 k x4 x27 x28 x29 x40 x41 (wrap64 (x42 + 1)) x219000 x219001 x219002)) else (impl_LayoutOk.l1 k x4 x27 x28 x29 x40 x41 (wrap64 (x42 + 1)) x219000 x219001 x219002)) else (none)) else (none)) else (impl_LayoutOk.l0 k x27 x28 (wrap64 (x29 + 1)) x219000 x219001 x219002)
end
def impl_LayoutOk.f (k : Nat) (l0_0 : List Int) (l0_1 : List Int) (l0_2 : List Int) : Option (Bool) := (impl_LevelFor.f k l0_0 l0_1).bind fun t219 => (if t219 = 0 then (impl_LayoutOk.j0 k true l0_0 l0_1 l0_2) else (impl_LayoutOk.j0 k ((l0_2.length : Int) != (wrap64 ((l0_0.length : Int) * (l0_1.length : Int)))) l0_0 l0_1 l0_2))
theorem impl_LayoutOk.mono_l : ∀ k, (∀ y0 y1 y2 y3, LeO (impl_LayoutOk.j0 k y0 y1 y2 y3) (impl_LayoutOk.j0 (k + 1) y0 y1 y2 y3)) ∧ (∀ y0 y1 y2 y3 y4 y5, LeO (impl_LayoutOk.l0 k y0 y1 y2 y3 y4 y5) (impl_LayoutOk.l0 (k + 1) y0 y1 y2 y3 y4 y5)) ∧ (∀ y0 y1 y2 y3 y4 y5 y6 y7 y8 y9, LeO (impl_LayoutOk.l1 k y0 y1 y2 y3 y4 y5 y6 y7 y8 y9) (impl_LayoutOk.l1 (k + 1) y0 y1 y2 y3 y4 y5 y6 y7 y8 y9))
 | 0 => ⟨fun _ _ _ _ r h => by simp [impl_LayoutOk.j0] at h, fun _ _ _ _ _ _ r h => by simp [impl_LayoutOk.l0] at h, fun _ _ _ _ _ _ _ _ _ _ r h => by simp [impl_LayoutOk.l1] at h⟩
 | k + 1 => by
  obtain ⟨ih0, ih1, ih2⟩ := impl_LayoutOk.mono_l k; refine ⟨?_, ?_, ?_⟩
  ·intro y0 y1 y2 y3
   unfold impl_LayoutOk.j0
   repeat' first
   | (with_reducible exact ih0 _ _ _ _)
   | (with_reducible exact ih1 _ _ _ _ _ _)
   | (with_reducible exact ih2 _ _ _ _ _ _ _ _ _ _)
   | (with_reducible exact impl_LevelFor.mono _ _ _)
   | (with_reducible exact LeO.refl _)
   | (with_reducible exact LeO.none _)
   | (with_reducible refine LeO.ite ?_ ?_)
   | (with_reducible refine LeO.bind ?_ (fun _ => ?_))
   | exact ih0 _ _ _ _
   | exact ih1 _ _ _ _ _ _
   | exact ih2 _ _ _ _ _ _ _ _ _ _
   | exact impl_LevelFor.mono _ _ _
   | exact LeO.none _
   | refine LeO.ite ?_ ?_
   | refine LeO.bind ?_ (fun _ => ?_)
  ·intro y0 y1 y2 y3 y4 y5
   unfold impl_LayoutOk.l0
   repeat' first
   | (with_reducible exact ih0 _ _ _ _)
   | (with_reducible exact ih1 _ _ _ _ _ _)
   | (with_reducible exact ih2 _ _ _ _ _ _ _ _ _ _)
   | (with_reducible exact impl_LevelFor.mono _ _ _)
   | (with_reducible exact LeO.refl _)
   | (with_reducible exact LeO.none _)
   | (with_reducible refine LeO.ite ?_ ?_)
   | (with_reducible refine LeO.bind ?_ (fun _ => ?_))
   | exact ih0 _ _ _ _
   | exact ih1 _ _ _ _ _ _
   | exact ih2 _ _ _ _ _ _ _ _ _ _
   | exact impl_LevelFor.mono _ _ _
   | exact LeO.none _
   | refine LeO.ite ?_ ?_
   | refine LeO.bind ?_ (fun _ => ?_)
  ·intro y0 y1 y2 y3 y4 y5 y6 y7 y8 y9
   unfold impl_LayoutOk.l1
   repeat' first
   | (with_reducible exact ih0 _ _ _ _)
   | (with_reducible exact ih1 _ _ _ _ _ _)
   | (with_reducible exact ih2 _ _ _ _ _ _ _ _ _ _)
   | (with_reducible exact impl_LevelFor.mono _ _ _)
   | (with_reducible exact LeO.refl _)
   | (with_reducible exact LeO.none _)
   | (with_reducible refine LeO.ite ?_ ?_)
   | (with_reducible refine LeO.bind ?_ (fun _ => ?_))
   | exact ih0 _ _ _ _
   | exact ih1 _ _ _ _ _ _
   | exact ih2 _ _ _ _ _ _ _ _ _ _
   | exact impl_LevelFor.mono _ _ _
   | exact LeO.none _
   | refine LeO.ite ?_ ?_
   | refine LeO.bind ?_ (fun _ => ?_)
theorem impl_LayoutOk.mono : ∀ a0 a1 a2 k, LeO (impl_LayoutOk.f k a0 a1 a2) (impl_LayoutOk.f (k + 1) a0 a1 a2) := by
 intro a0 a1 a2 k; obtain ⟨ih0, ih1, ih2⟩ := impl_LayoutOk.mono_l k; unfold impl_LayoutOk.f
 repeat' first
   | (with_reducible exact ih0 _ _ _ _)
   | (with_reducible exact ih1 _ _ _ _ _ _)
   | (with_reducible exact ih2 _ _ _ _ _ _ _ _ _ _)
   | (with_reducible exact impl_LevelFor.mono _ _ _)
   | (with_reducible exact LeO.refl _)
   | (with_reducible exact LeO.none _)
   | (with_reducible refine LeO.ite ?_ ?_)
   | (with_reducible refine LeO.bind ?_ (fun _ => ?_))
   | exact ih0 _ _ _ _
   | exact ih1 _ _ _ _ _ _
   | exact ih2 _ _ _ _ _ _ _ _ _ _
   | exact impl_LevelFor.mono _ _ _
   | exact LeO.none _
   | refine LeO.ite ?_ ?_
   | refine LeO.bind ?_ (fun _ => ?_)
set_option maxHeartbeats 8000000 in
set_option maxRecDepth 100000 in
theorem impl_LayoutOk.calls (k : Nat) (A0_0 : Option Addr) (c0_0 : Nat) (l0_0 : List Int) (A0_1 : Option Addr) (c0_1 : Nat) (l0_1 : List Int) (A0_2 : Option Addr) (c0_2 : Nat) (l0_2 : List Int) (r : Bool) (w : World) (hr0_0 : Kd.C (Kd.int .i64) w A0_0 l0_0.length l0_0) (hc0_0 : l0_0.length ≤ c0_0) (hr0_1 : Kd.C (Kd.int .i64) w A0_1 l0_1.length l0_1) (hc0_1 : l0_1.length ≤ c0_1) (hr0_2 : Kd.C (Kd.int .i64) w A0_2 l0_2.length l0_2) (hc0_2 : l0_2.length ≤ c0_2) (h : impl_LayoutOk.f k l0_0 l0_1 l0_2 = some r) :
  Calls Try.prog 80 #[.agg #[.slice A0_0 l0_0.length c0_0, .slice A0_1 l0_1.length c0_1, .slice A0_2 l0_2.length c0_2]] w fun e w' => e = .returned (.bool r) ∧ Below w.heap.size w w' := by
 have hu39 := Try.underlying39; have HR0_0 := Aside0.mk hr0_0; have HC0_0 := Aside0.mk hc0_0; clear hr0_0 hc0_0; have HR0_1 := Aside0.mk hr0_1; have HC0_1 := Aside0.mk hc0_1; clear hr0_1 hc0_1; have HR0_2 := Aside0.mk hr0_2; have HC0_2 := Aside0.mk hc0_2; clear hr0_2 hc0_2; have HB := Aside0.mk (Below.refl w.heap.size w); have H : ((impl_LevelFor.f k l0_0 l0_1).bind fun t219 => (if t219 = 0 then (impl_LayoutOk.j0 k true l0_0 l0_1 l0_2) else (impl_LayoutOk.j0 k ((l0_2.length : Int) != (wrap64 ((l0_0.length : Int) * (l0_1.length : Int)))) l0_0 l0_1 l0_2))) = some r := h; clear h; have HC2 := Aside0.mk H; clear H; go_enter Try.func80, Try.ntmps80; go_upto_region 1 with (first | ((with_reducible refine gate_dst (N := 1) rfl ?_); (try (refine gate_guard (by rfl) ?_; dsimp only)); refine box_event ?hg (N := 1) ?hd (cs := #[.slice A0_0 l0_0.length c0_0, .slice A0_1 l0_1.length c0_1, .slice A0_2 l0_2.length c0_2]) (t := 39) ?hr ?_; (case hd => rfl); (case hg => rfl); (case hr => first | (go_simp; done) | (go_simp; rfl)); intro gb218 hg w3 hbox hb; have BK218 := Aside0.mk (hbox); have GW218 := gw_ hg hb_; have GE218 := gw_ hg hb_; replace HB := Aside0.mk (below_step hb_ hb); clear hb hbox hg))
 (try simp only [Act.put, List.setIfInBounds_toArray, List.set_cons_zero, List.set_cons_succ]); go_cut [25] (fun v25 wc => ∃ (kq : Nat) (x25_1 : Bool), v25 = .bool x25_1 ∧ Aside0 (impl_LayoutOk.j0 kq x25_1 l0_0 l0_1 l0_2 = some r) ∧ Aside0 (kq ≤ k) ∧ Aside0 (wc.heap[gb218]? = some (.cells #[(.slice A0_0 l0_0.length c0_0), (.slice A0_1 l0_1.length c0_1), (.slice A0_2 l0_2.length c0_2)] 39 (0, 0))) ∧ Aside0 (Below w.heap.size w wc))
 case first =>
  have H := HC2.out; clear HC2; replace H := Option.bind_eq_some_iff.mp H; obtain ⟨t219, A40, H⟩ := H; try dsimp only at H
  have A4 := Aside0.mk A40; clear A40; by_cases c5 : t219 = 0
  ·rw [if_pos c5] at H
   have c5b0 : (t219 == 0) = true := beq_iff_eq.mpr c5; have c5b1 : (t219 != 0) = false := bne_eq_false_iff_eq.mpr c5; clear c5; (first | rw [c5b0] | (simp only [i64_w, i32_w]; rw [c5b0]) | skip); have H' := Aside0.mk H; clear H; have hz6 := bc3_ BK218.out; go_wp2_with (first | ((with_reducible refine gate_callee (f := 83) rfl ?_); refine gA_ (some 11) Try.func83 (impl_LevelFor.calls _ _ _ _ _ _ _ _ _ ?side1 ?side2 ?side3 ?side4 A4.out) ?_; (case side1 => repeat (first | exact (Kd.C_below HR0_0.out HB.out) | (with_reducible refine Kd.C_alloc ?_ _) | (with_reducible refine Kd.C_drewN ?_ _) | (with_reducible refine Kd.C_drew ?_))); (case side2 => exact HC0_0.out); (case side3 => repeat (first | exact (Kd.C_below HR0_1.out HB.out) | (with_reducible refine Kd.C_alloc ?_ _) | (with_reducible refine Kd.C_drewN ?_ _) | (with_reducible refine Kd.C_drew ?_))); (case side4 => exact HC0_1.out); rintro e w7 ⟨rfl, hb⟩; refine ⟨_, rfl, ?_⟩; replace BK218 := bb_ BK218 hb; replace HB := Aside0.mk (below_step hb_ hb); (try clear hb); (try clear hb2); (try clear hk); (try clear hi))); go_meet
   case rel => exact ⟨_, (true), Bb_2, H', ⟨(by first | omega | exact Nat.le_refl _)⟩, ⟨Bb_6⟩, ⟨hb_⟩⟩
  ·rw [if_neg c5] at H
   have c5b0 : (t219 == 0) = false := beq_eq_false_iff_ne.mpr c5; have c5b1 : (t219 != 0) = true := bne_iff_ne.mpr c5; (first | rw [c5b0] | (simp only [i64_w, i32_w]; rw [c5b0]) | skip); have H' := Aside0.mk H; clear H; have hz8 := bc3_ BK218.out; go_wp2_with (first | ((with_reducible refine gate_callee (f := 83) rfl ?_); refine gA_ (some 11) Try.func83 (impl_LevelFor.calls _ _ _ _ _ _ _ _ _ ?side1 ?side2 ?side3 ?side4 A4.out) ?_; (case side1 => repeat (first | exact (Kd.C_below HR0_0.out HB.out) | (with_reducible refine Kd.C_alloc ?_ _) | (with_reducible refine Kd.C_drewN ?_ _) | (with_reducible refine Kd.C_drew ?_))); (case side2 => exact HC0_0.out); (case side3 => repeat (first | exact (Kd.C_below HR0_1.out HB.out) | (with_reducible refine Kd.C_alloc ?_ _) | (with_reducible refine Kd.C_drewN ?_ _) | (with_reducible refine Kd.C_drew ?_))); (case side4 => exact HC0_1.out); rintro e w9 ⟨rfl, hb⟩; refine ⟨_, rfl, ?_⟩; replace BK218 := bb_ BK218 hb; replace HB := Aside0.mk (below_step hb_ hb); (try clear hb); (try clear hb2); (try clear hk); (try clear hi); have hz10 := bc3_ BK218.out)); go_meet
   case rel => exact ⟨_, (((l0_2.length : Int) != (wrap64 ((l0_0.length : Int) * (l0_1.length : Int))))), Bb_2, H', ⟨(by first | omega | exact Nat.le_refl _)⟩, ⟨Bb_6⟩, ⟨hb_⟩⟩
 case rest =>
  clear HC2; try clear p2; try clear c5; try clear c5b0; try clear c5b1; try clear p6; try clear c8; try clear hz10; try clear hz6; try clear hz8
  obtain ⟨kq, x25_1, rfl, HA, HJ1, BK218, HB⟩ := hcut; cases kq with
  | zero => exact absurd HA.out (by simp [impl_LayoutOk.j0])
  | succ kj1 =>
   have H := HA.out; clear HA; simp only [impl_LayoutOk.j0] at H; by_cases c11 : x25_1 = true
   ·subst c11
    rw [if_pos rfl] at H; obtain rfl := Option.some.inj H; go_wp2; go_ret; exact ⟨Bb_0, hb_⟩
   ·replace c11 := Bool.eq_false_iff.mpr c11
    subst c11; rw [if_neg (show ¬ (false = true) by decide)] at H; have H' := Aside0.mk H; clear H; have hz12 := bc3_ BK218.out; go_wp2; go_loopg [29] kj1 (fun kq v29 w' => ∃ (x29_2 : Int), v29 = .int .i64 x29_2 ∧ Aside0 (impl_LayoutOk.l0 kq l0_2 (l0_2.length : Int) x29_2 l0_0 l0_1 l0_2 = some r) ∧ Aside0 (kq ≤ kj1) ∧ Aside0 (w'.heap[gb218]? = some (.cells #[(.slice A0_0 l0_0.length c0_0), (.slice A0_1 l0_1.length c0_1), (.slice A0_2 l0_2.length c0_2)] 39 (0, 0))) ∧ Aside0 (Below w.heap.size w w'))
    case atStart => exact ⟨(0), Bb_2, H', ⟨Nat.le_refl _⟩, ⟨Bb_6⟩, ⟨hb_⟩⟩
    case round =>
     clear H'; try clear c1; try clear p2; try clear c5; try clear c5b0; try clear c5b1; try clear p6; try clear c8; try clear c11; try clear hz10; try clear hz12; try clear hz6; try clear hz8
     obtain ⟨x29_2, rfl, HA, HK2, BK218, HB⟩ := hrel; cases gk with
     | zero => exact absurd HA.out (by simp [impl_LayoutOk.l0])
     | succ k2 =>
      have H := HA.out; clear HA; simp only [impl_LayoutOk.l0] at H; by_cases c13 : x29_2 < (l0_2.length : Int)
      ·rw [if_pos c13] at H
       have c13b0 : decide (x29_2 < (l0_2.length : Int)) = true := decide_eq_true c13; clear c13; by_cases c14 : 0 ≤ x29_2
       ·rw [if_pos c14] at H
        have c14b0 : decide (0 ≤ x29_2) = true := decide_eq_true c14; clear c14; by_cases c15 : x29_2 < (l0_2.length : Int)
        ·rw [if_pos c15] at H
         have c15b0 : decide (x29_2 < (l0_2.length : Int)) = true := decide_eq_true c15; clear c15; replace H := Option.bind_eq_some_iff.mp H; obtain ⟨t221, A160, H⟩ := H; try dsimp only at H
         have A16 := Aside0.mk A160; clear A160; have HC17 := Aside0.mk H; clear H; have p220 : 0 ≤ (x29_2 : Int) := of_decide_eq_true Bb_1; have q220 : x29_2 < (l0_2.length : Int) := of_decide_eq_true Bb_1; obtain ⟨ad220, e220, hx220_0⟩ := Kd.at_int HR0_2.out x29_2 p220 q220; cases e220; replace hx220_0 := (HB.out.cell (World.block_lt_of_cell? w _ hx220_0)).trans hx220_0; replace p220 := eq_true p220; replace q220 := eq_true q220; go_upto_if 36 with (first | ((with_reducible refine gate_callee (f := 71) rfl ?_); refine gA_ (some 35) Try.func71 (impl_within.calls _ _ _ _ _ A16.out) ?_; rintro e w' ⟨rfl, ⟨nd, rfl⟩⟩; refine ⟨_, rfl, ?_⟩))
         (try simp only [Act.put, List.setIfInBounds_toArray, List.set_cons_zero, List.set_cons_succ]); have H := HC17.out; clear HC17; by_cases c18 : t221 = true
         ·subst c18
          rw [if_pos rfl] at H; have c19b0 := eq_true (of_decide_eq_true Bb_1 : 0 ≤ x29_2); by_cases c20 : x29_2 ≤ (l0_2.length : Int)
          ·rw [if_pos c20] at H
           have c20b0 := eq_true c20; have c20b1 : decide (x29_2 ≤ (l0_2.length : Int)) = true := decide_eq_true c20; clear c20; have H' := Aside0.mk H; clear H; have hz21 := bc3_ BK218.out; obtain ⟨i022, hi022, _, hsz22, _⟩ := info_parts info3; obtain ⟨hcut22, hA22, hC22⟩ := print_take_of (P := Try.prog) (Value.int .i64) 0 37 3 .i64 Try.underlying37 hi022 hsz22 (some ad220) c0_2 l0_2 x29_2 (of_decide_eq_true Bb_1) (of_decide_eq_true Bb_1) HC0_2.out; have HR222 := Aside0.mk (Kd.C_of_reads (h1 := fun _ => rfl) (hA22 _ (Kd.reads_of_C HR0_2.out))); have HC222 := Aside0.mk hC22; clear hA22 hC22 hi022 hsz22; have KT22 := Aside0.mk (show x29_2 ≤ (l0_2.length : Int) from of_decide_eq_true Bb_1); go_wp2; go_loopg [42] k2 (fun kq v42 w' => ∃ (x42_3 : Int), v42 = .int .i64 x42_3 ∧ Aside0 (impl_LayoutOk.l1 kq (rd l0_2 x29_2) l0_2 (l0_2.length : Int) x29_2 (l0_2.take (x29_2 : Int).toNat) ((l0_2.take (x29_2 : Int).toNat).length : Int) x42_3 l0_0 l0_1 l0_2 = some r) ∧ Aside0 (kq ≤ k2) ∧ Aside0 (w'.heap[gb218]? = some (.cells #[(.slice A0_0 l0_0.length c0_0), (.slice A0_1 l0_1.length c0_1), (.slice (some ad220) l0_2.length c0_2)] 39 (0, 0))) ∧ Aside0 (Below w.heap.size w w'))
           case atStart => exact ⟨(0), Bb_2, H', ⟨Nat.le_refl _⟩, ⟨Bb_6⟩, ⟨hb_⟩⟩
           case round =>
            clear H'; try clear c1; try clear c2; try clear p2; try clear q2; try clear hx2; try clear c5; try clear c5b0; try clear c5b1; try clear p6; try clear c7; try clear c8; try clear c11; try clear c13; try clear c13b0; try clear c14; try clear c14b0; try clear c15; try clear c15b0; try clear c18; try clear c19; try clear c19b0; try clear c20; try clear c20b0; try clear c20b1; try clear p22; try clear q22; try clear hx22; try clear hz10; try clear hz12; try clear hz21; try clear hz6; try clear hz8; try clear hx220_0; try clear p220; try clear q220
            obtain ⟨x42_3, rfl, HA, HK3, BK218, HB⟩ := hrel; cases gk with
            | zero => exact absurd HA.out (by simp [impl_LayoutOk.l1])
            | succ k3 =>
             have H := HA.out; clear HA; simp only [impl_LayoutOk.l1] at H; by_cases c23 : x42_3 < ((l0_2.take (x29_2 : Int).toNat).length : Int)
             ·rw [if_pos c23] at H
              have c23b0 : decide (x42_3 < ((l0_2.take (x29_2 : Int).toNat).length : Int)) = true := decide_eq_true c23; (try (have c23b1 : decide (x42_3 < max x29_2 0) = true := by have h1_ := c23; rw [List.length_take] at h1_; exact decide_eq_true (by omega))); (try (have c23b2 : (x42_3 < max x29_2 0) = True := by have h1_ := c23; rw [List.length_take] at h1_; exact eq_true (by omega))); clear c23; (first | rw [c23b0] | (simp only [i64_w, i32_w]; rw [c23b0]) | skip); by_cases c24 : 0 ≤ x42_3
              ·rw [if_pos c24] at H
               have c24b0 : decide (0 ≤ x42_3) = true := decide_eq_true c24; clear c24; by_cases c25 : x42_3 < ((l0_2.take (x29_2 : Int).toNat).length : Int)
               ·rw [if_pos c25] at H
                have c25b0 : decide (x42_3 < ((l0_2.take (x29_2 : Int).toNat).length : Int)) = true := decide_eq_true c25; (try (have c25b1 : decide (x42_3 < max x29_2 0) = true := by have h1_ := c25; rw [List.length_take] at h1_; exact decide_eq_true (by omega))); (try (have c25b2 : (x42_3 < max x29_2 0) = True := by have h1_ := c25; rw [List.length_take] at h1_; exact eq_true (by omega))); clear c25; by_cases c26 : (rd l0_2 x29_2) ≥ 0
                ·rw [if_pos c26] at H
                 have c26b0 : decide (0 ≤ (rd l0_2 x29_2)) = true := decide_eq_true c26; clear c26; by_cases c27 : (rd (l0_2.take (x29_2 : Int).toNat) x42_3) = (rd l0_2 x29_2)
                 ·rw [if_pos c27] at H
                  have c27b0 : ((rd (l0_2.take (x29_2 : Int).toNat) x42_3) == (rd l0_2 x29_2)) = true := beq_iff_eq.mpr c27; have c27b1 : ((rd (l0_2.take (x29_2 : Int).toNat) x42_3) != (rd l0_2 x29_2)) = false := bne_eq_false_iff_eq.mpr c27; clear c27; obtain rfl := Option.some.inj H; have p223 : 0 ≤ (x42_3 : Int) := of_decide_eq_true Bb_1; have q223 : x42_3 < ((l0_2.take (x29_2 : Int).toNat).length : Int) := of_decide_eq_true Bb_1; obtain ⟨ad223, e223, hx223_0⟩ := Kd.at_int HR222.out x42_3 p223 q223; obtain rfl : ad220 = ad223 := (by injection e223); replace hx223_0 := (HB.out.cell (World.block_lt_of_cell? w _ hx223_0)).trans hx223_0; replace p223 := eq_true p223; replace q223 := eq_true q223; go_wp2; go_ret; exact ⟨Bb_0, hb_⟩
                 ·rw [if_neg c27] at H
                  have c27b0 : ((rd (l0_2.take (x29_2 : Int).toNat) x42_3) == (rd l0_2 x29_2)) = false := beq_eq_false_iff_ne.mpr c27; have c27b1 : ((rd (l0_2.take (x29_2 : Int).toNat) x42_3) != (rd l0_2 x29_2)) = true := bne_iff_ne.mpr c27; have H' := Aside0.mk H; clear H; have p223 : 0 ≤ (x42_3 : Int) := of_decide_eq_true Bb_1; have q223 : x42_3 < ((l0_2.take (x29_2 : Int).toNat).length : Int) := of_decide_eq_true Bb_1; obtain ⟨ad223, e223, hx223_0⟩ := Kd.at_int HR222.out x42_3 p223 q223; obtain rfl : ad220 = ad223 := (by injection e223); replace hx223_0 := (HB.out.cell (World.block_lt_of_cell? w _ hx223_0)).trans hx223_0; replace p223 := eq_true p223; replace q223 := eq_true q223; go_wp2; go_roundg k3
                  case measure => have := HJ1.out; have := HK2.out; have := HK3.out; omega
                  case rel => exact ⟨(wrap64 (x42_3 + 1)), Bb_2, H', ⟨Bb_17⟩, ⟨Bb_6⟩, ⟨hb_⟩⟩
                ·rw [if_neg c26] at H
                 have c26b0 : decide (0 ≤ (rd l0_2 x29_2)) = false := decide_eq_false c26; clear c26; have H' := Aside0.mk H; clear H; have p223 : 0 ≤ (x42_3 : Int) := of_decide_eq_true Bb_1; have q223 : x42_3 < ((l0_2.take (x29_2 : Int).toNat).length : Int) := of_decide_eq_true Bb_1; obtain ⟨ad223, e223, hx223_0⟩ := Kd.at_int HR222.out x42_3 p223 q223; obtain rfl : ad220 = ad223 := (by injection e223); replace hx223_0 := (HB.out.cell (World.block_lt_of_cell? w _ hx223_0)).trans hx223_0; replace p223 := eq_true p223; replace q223 := eq_true q223; go_wp2; go_roundg k3
                 case measure => have := HJ1.out; have := HK2.out; have := HK3.out; omega
                 case rel => exact ⟨(wrap64 (x42_3 + 1)), Bb_2, H', ⟨Bb_17⟩, ⟨Bb_6⟩, ⟨hb_⟩⟩
               ·rw [if_neg c25] at H
                exact absurd H (by simp)
              ·rw [if_neg c24] at H
               exact absurd H (by simp)
             ·rw [if_neg c23] at H
              have c23b0 : decide (x42_3 < ((l0_2.take (x29_2 : Int).toNat).length : Int)) = false := decide_eq_false c23; (try (have c23b1 : decide (x42_3 < max x29_2 0) = false := by have h1_ := c23; rw [List.length_take] at h1_; have h2_ : x29_2 ≤ (l0_2.length : Int) := Bb_16; exact decide_eq_false (by omega))); (try (have c23b2 : (x42_3 < max x29_2 0) = False := by have h1_ := c23; rw [List.length_take] at h1_; have h2_ : x29_2 ≤ (l0_2.length : Int) := Bb_16; exact eq_false (by omega))); clear c23; (first | rw [c23b0] | (simp only [i64_w, i32_w]; rw [c23b0]) | skip); have H' := Aside0.mk H; clear H; go_wp2; go_roundg k3
              case measure => have := HJ1.out; have := HK2.out; have := HK3.out; omega
              case rel => exact ⟨(wrap64 (x29_2 + 1)), Bb_2, H', ⟨Bb_17⟩, ⟨Bb_6⟩, ⟨hb_⟩⟩
          ·rw [if_neg c20] at H
           exact absurd H (by simp)
         ·replace c18 := Bool.eq_false_iff.mpr c18
          subst c18; rw [if_neg (show ¬ (false = true) by decide)] at H; obtain rfl := Option.some.inj H; go_wp2; go_ret; exact ⟨Bb_0, hb_⟩
        ·rw [if_neg c15] at H
         exact absurd H (by simp)
       ·rw [if_neg c14] at H
        exact absurd H (by simp)
      ·rw [if_neg c13] at H
       have c13b0 : decide (x29_2 < (l0_2.length : Int)) = false := decide_eq_false c13; clear c13; obtain rfl := Option.some.inj H; go_wp2; go_ret; exact ⟨Bb_0, hb_⟩
end Go.Proofs.Ytjmhhgnknjfnlaa.PFnLayouts
namespace Go.Proofs.Ytjmhhgnknjfnlaa.PFnLayouts
open Go.RowKit Go.Proofs.YtjmhhgnknjfnlaaW.PrintWords Go.Proofs.YtjmhhgnknjfnlaaW.PrintLast Go.Proofs.YtjmhhgnknjfnlaaW.PrintMore
attribute [local go_sem] max2_int min2_int max_two min_two max_three min_three max_four min_four
set_option linter.unusedVariables false
set_option linter.unusedSimpArgs false
def impl_Decimal.l0 : Nat → Int → ByteArray → Int → Option (ByteArray)
 | 0, _, _, _ => none
 | k + 1, x0, x3, x4 => if x4 = 0 then (if x0 < 0 then (if 1 + x3.size ≤ 9223372036854775807 then (some ((⟨#[45]⟩ : ByteArray) ++ x3)) else (none)) else (some x3)) else (if 0 ≤ (mx (Int.tmod x4 10) (wrap64 (-(Int.tmod x4 10)))) then (if (mx (Int.tmod x4 10) (wrap64 (-(Int.tmod x4 10)))) ≤ (wrap64 ((mx (Int.tmod x4 10) (wrap64 (-(Int.tmod x4 10)))) + 1)) then (if (wrap64 ((mx (Int.tmod x4 10) (wrap64 (-(Int.tmod x4 10)))) + 1)) ≤ 16 then (if ((⟨#[48, 49, 50, 51, 52, 53, 54, 55, 56, 57, 97, 98, 99, 100, 101, 102]⟩ : ByteArray).extract ((mx (Int.tmod x4 10) (wrap64 (-(Int.tmod x4 10)))) : Int).toNat ((wrap64 ((mx (Int.tmod x4 10) (wrap64 (-(Int.tmod x4 10)))) + 1)) : Int).toNat).size + x3.size ≤ 9223372036854775807 then (impl_Decimal.l0 k x0 (((⟨#[48, 49, 50, 51, 52, 53, 54, 55, 56, 57, 97, 98, 99, 100, 101, 102]⟩ : ByteArray).extract ((mx (Int.tmod x4 10) (wrap64 (-(Int.tmod x4 10)))) : Int).toNat ((wrap64 ((mx (Int.tmod x4 10) (wrap64 (-(Int.tmod x4 10)))) + 1)) : Int).toNat) ++ x3) (wrap64 (Int.tdiv x4 10))) else (none)) else (none)) else (none)) else (none))
def impl_Decimal.f (k : Nat) (a0 : Int) : Option (ByteArray) := if a0 = 0 then (some (⟨#[48]⟩ : ByteArray)) else (impl_Decimal.l0 k a0 (⟨#[]⟩ : ByteArray) a0)
theorem impl_Decimal.mono_l : ∀ k, (∀ y0 y1 y2, LeO (impl_Decimal.l0 k y0 y1 y2) (impl_Decimal.l0 (k + 1) y0 y1 y2))
 | 0 => fun _ _ _ r h => by simp [impl_Decimal.l0] at h
 | k + 1 => by
  have ih0 := impl_Decimal.mono_l k
  ·intro y0 y1 y2
   unfold impl_Decimal.l0
   repeat' first
   | (with_reducible exact ih0 _ _ _)
   | (with_reducible exact LeO.refl _)
   | (with_reducible exact LeO.none _)
   | (with_reducible refine LeO.ite ?_ ?_)
   | (with_reducible refine LeO.bind ?_ (fun _ => ?_))
   | exact ih0 _ _ _
   | exact LeO.none _
   | refine LeO.ite ?_ ?_
   | refine LeO.bind ?_ (fun _ => ?_)
theorem impl_Decimal.mono : ∀ a0 k, LeO (impl_Decimal.f k a0) (impl_Decimal.f (k + 1) a0) := by
 intro a0 k; have ih0 := impl_Decimal.mono_l k; unfold impl_Decimal.f
 repeat' first
   | (with_reducible exact ih0 _ _ _)
   | (with_reducible exact LeO.refl _)
   | (with_reducible exact LeO.none _)
   | (with_reducible refine LeO.ite ?_ ?_)
   | (with_reducible refine LeO.bind ?_ (fun _ => ?_))
   | exact ih0 _ _ _
   | exact LeO.none _
   | refine LeO.ite ?_ ?_
   | refine LeO.bind ?_ (fun _ => ?_)
set_option maxHeartbeats 8000000 in
set_option maxRecDepth 100000 in
theorem impl_Decimal.calls (k : Nat) (a0 : Int) (r : ByteArray) (w : World) (h : impl_Decimal.f k a0 = some r) :
  Calls Try.prog 72 #[.int .i64 a0] w fun e w' => e = .returned (.string r) ∧ Below w.heap.size w w' := by
 have HB := Aside0.mk (Below.refl w.heap.size w); have H : (if a0 = 0 then (some (⟨#[48]⟩ : ByteArray)) else (impl_Decimal.l0 k a0 (⟨#[]⟩ : ByteArray) a0)) = some r := h; clear h; by_cases c2 : a0 = 0
 ·rw [if_pos c2] at H
  have c2b0 : (a0 == 0) = true := beq_iff_eq.mpr c2; have c2b1 : (a0 != 0) = false := bne_eq_false_iff_eq.mpr c2; clear c2; obtain rfl := Option.some.inj H; go_enter Try.func72, Try.ntmps72; go_wp2; go_ret; exact ⟨Bb_0, hb_⟩
 ·rw [if_neg c2] at H
  have c2b0 : (a0 == 0) = false := beq_eq_false_iff_ne.mpr c2; have c2b1 : (a0 != 0) = true := bne_iff_ne.mpr c2; have H' := Aside0.mk H; clear H; go_enter Try.func72, Try.ntmps72; go_wp2; go_loopg [3, 4] k (fun kq v3 v4 w' => ∃ (x3_1 : ByteArray) (x4_1 : Int), v3 = .string x3_1 ∧ v4 = .int .i64 x4_1 ∧ Aside0 (impl_Decimal.l0 kq a0 x3_1 x4_1 = some r) ∧ Aside0 (kq ≤ k) ∧ Aside0 (Below w.heap.size w w'))
  case atStart => exact ⟨((⟨#[]⟩ : ByteArray)), (a0), Bb_2, Bb_2, H', ⟨Nat.le_refl _⟩, ⟨hb_⟩⟩
  case round =>
   clear H'; try clear c2; try clear c2b0; try clear c2b1; try clear p2
   obtain ⟨x3_1, x4_1, rfl, rfl, HA, HK1, HB⟩ := hrel; cases gk with
   | zero => exact absurd HA.out (by simp [impl_Decimal.l0])
   | succ k1 =>
    have H := HA.out; clear HA; simp only [impl_Decimal.l0] at H; by_cases c3 : x4_1 = 0
    ·rw [if_pos c3] at H
     have c3b0 : (x4_1 == 0) = true := beq_iff_eq.mpr c3; have c3b1 : (x4_1 != 0) = false := bne_eq_false_iff_eq.mpr c3; clear c3; by_cases c4 : a0 < 0
     ·rw [if_pos c4] at H
      have c4b0 : decide (a0 < 0) = true := decide_eq_true c4; clear c4; by_cases c5 : 1 + x3_1.size ≤ 9223372036854775807
      ·rw [if_pos c5] at H
       have c5b0 := eq_true c5; have c5b1 : decide (1 + x3_1.size ≤ 9223372036854775807) = true := decide_eq_true c5; try have c5b2 : (9223372036854775807 < 1 + x3_1.size) = False := eq_false (Nat.not_lt.2 c5)
       obtain rfl := Option.some.inj H; go_wp2; go_ret; exact ⟨Bb_0, hb_⟩
      ·rw [if_neg c5] at H
       exact absurd H (by simp)
     ·rw [if_neg c4] at H
      have c4b0 : decide (a0 < 0) = false := decide_eq_false c4; clear c4; obtain rfl := Option.some.inj H; go_wp2; go_ret; exact ⟨Bb_0, hb_⟩
    ·rw [if_neg c3] at H
     have c3b0 : (x4_1 == 0) = false := beq_eq_false_iff_ne.mpr c3; have c3b1 : (x4_1 != 0) = true := bne_iff_ne.mpr c3; obtain ⟨ji6, hji6⟩ : ∃ j_ : Int, (mx (Int.tmod x4_1 10) (wrap64 (-(Int.tmod x4_1 10)))) = j_ := ⟨_, rfl⟩; (first | rw [hji6] at H | simp only [hji6] at H); have hji6_ : (if (Int.tmod x4_1 10) < (wrap64 (-(Int.tmod x4_1 10))) then (wrap64 (-(Int.tmod x4_1 10))) else (Int.tmod x4_1 10)) = ji6 := hji6; by_cases c7 : 0 ≤ (ji6)
     ·rw [if_pos c7] at H
      have c7b0 := eq_true c7; have c7b1 : decide (0 ≤ (ji6)) = true := decide_eq_true c7; clear c7; by_cases c8 : (ji6) ≤ (wrap64 ((ji6) + 1))
      ·rw [if_pos c8] at H
       have c8b0 := eq_true c8; have c8b1 : decide ((ji6) ≤ (wrap64 ((ji6) + 1))) = true := decide_eq_true c8; by_cases c9 : (wrap64 ((ji6) + 1)) ≤ 16
       ·rw [if_pos c9] at H
        have c9b0 := eq_true c9; have c9b1 : decide ((wrap64 ((ji6) + 1)) ≤ 16) = true := decide_eq_true c9; by_cases c10 : ((⟨#[48, 49, 50, 51, 52, 53, 54, 55, 56, 57, 97, 98, 99, 100, 101, 102]⟩ : ByteArray).extract ((ji6) : Int).toNat ((wrap64 ((ji6) + 1)) : Int).toNat).size + x3_1.size ≤ 9223372036854775807
        ·rw [if_pos c10] at H
         have c10b0 := eq_true c10; have c10b1 : decide (((⟨#[48, 49, 50, 51, 52, 53, 54, 55, 56, 57, 97, 98, 99, 100, 101, 102]⟩ : ByteArray).extract ((ji6) : Int).toNat ((wrap64 ((ji6) + 1)) : Int).toNat).size + x3_1.size ≤ 9223372036854775807) = true := decide_eq_true c10; try have c10b2 : (9223372036854775807 < ((⟨#[48, 49, 50, 51, 52, 53, 54, 55, 56, 57, 97, 98, 99, 100, 101, 102]⟩ : ByteArray).extract ((ji6) : Int).toNat ((wrap64 ((ji6) + 1)) : Int).toNat).size + x3_1.size) = False := eq_false (Nat.not_lt.2 c10)
         have H' := Aside0.mk H; clear H; go_wp2; go_roundg k1
         case measure => have := HK1.out; omega
         case rel => exact ⟨(((⟨#[48, 49, 50, 51, 52, 53, 54, 55, 56, 57, 97, 98, 99, 100, 101, 102]⟩ : ByteArray).extract ((ji6) : Int).toNat ((wrap64 ((ji6) + 1)) : Int).toNat) ++ x3_1), (wrap64 (Int.tdiv x4_1 10)), (by first | rfl | (simp; done) | (simp only [← hji6] <;> (first | rfl | simp)) | (simp [*]; done)), Bb_2, H', ⟨Bb_15⟩, ⟨hb_⟩⟩
        ·rw [if_neg c10] at H
         exact absurd H (by simp)
       ·rw [if_neg c9] at H
        exact absurd H (by simp)
      ·rw [if_neg c8] at H
       exact absurd H (by simp)
     ·rw [if_neg c7] at H
      exact absurd H (by simp)
end Go.Proofs.Ytjmhhgnknjfnlaa.PFnLayouts
namespace Go.Proofs.Ytjmhhgnknjfnlaa.PFnLayouts
open Go.RowKit Go.Proofs.YtjmhhgnknjfnlaaW.PrintWords Go.Proofs.YtjmhhgnknjfnlaaW.PrintLast Go.Proofs.YtjmhhgnknjfnlaaW.PrintMore
attribute [local go_sem] max2_int min2_int max_two min_two max_three min_three max_four min_four
set_option linter.unusedVariables false
set_option linter.unusedSimpArgs false
def impl_commas.l0 : Nat → ByteArray → List Int → Int → Int → Option (ByteArray)
 | 0, _, _, _, _ => none
 | k + 1, x3, x6, x7, x8 => if x8 < x7 then (if 0 ≤ x8 then (if x8 < (x6.length : Int) then (if x8 > 0 then (if x3.size + 1 ≤ 9223372036854775807 then (if (rd x6 x8) < 0 then (if (x3 ++ (⟨#[44]⟩ : ByteArray)).size + 1 ≤ 9223372036854775807 then (impl_commas.l0 k ((x3 ++ (⟨#[44]⟩ : ByteArray)) ++ (⟨#[120]⟩ : ByteArray)) x6 x7 (wrap64 (x8 + 1))) else (none)) else ((impl_Decimal.f k (rd x6 x8)).bind fun t225 => (if (x3 ++ (⟨#[44]⟩ : ByteArray)).size + t225.size ≤ 9223372036854775807 then (impl_commas.l0 k ((x3 ++ (⟨#[44]⟩ : ByteArray)) ++ t225) x6 x7 (wrap64 (x8 + 1))) else (none)))) else (none)) else (if (rd x6 x8) < 0 then (if x3.size + 1 ≤ 9223372036854775807 then (impl_commas.l0 k (x3 ++ (⟨#[120]⟩ : ByteArray)) x6 x7 (wrap64 (x8 + 1))) else (none)) else ((impl_Decimal.f k (rd x6 x8)).bind fun t226 => (if x3.size + t226.size ≤ 9223372036854775807 then (impl_commas.l0 k (x3 ++ t226) x6 x7 (wrap64 (x8 + 1))) else (none))))) else (none)) else (none)) else (some x3)
def impl_commas.f (k : Nat) (l0 : List Int) : Option (ByteArray) := impl_commas.l0 k (⟨#[]⟩ : ByteArray) l0 (l0.length : Int) 0
theorem impl_commas.mono_l : ∀ k, (∀ y0 y1 y2 y3, LeO (impl_commas.l0 k y0 y1 y2 y3) (impl_commas.l0 (k + 1) y0 y1 y2 y3))
 | 0 => fun _ _ _ _ r h => by simp [impl_commas.l0] at h
 | k + 1 => by
  have ih0 := impl_commas.mono_l k
  ·intro y0 y1 y2 y3
   unfold impl_commas.l0
   repeat' first
   | (with_reducible exact ih0 _ _ _ _)
   | (with_reducible exact impl_Decimal.mono _ _)
   | (with_reducible exact LeO.refl _)
   | (with_reducible exact LeO.none _)
   | (with_reducible refine LeO.ite ?_ ?_)
   | (with_reducible refine LeO.bind ?_ (fun _ => ?_))
   | exact ih0 _ _ _ _
   | exact impl_Decimal.mono _ _
   | exact LeO.none _
   | refine LeO.ite ?_ ?_
   | refine LeO.bind ?_ (fun _ => ?_)
theorem impl_commas.mono : ∀ a0 k, LeO (impl_commas.f k a0) (impl_commas.f (k + 1) a0) := by
 intro a0 k; have ih0 := impl_commas.mono_l k; unfold impl_commas.f
 repeat' first
   | (with_reducible exact ih0 _ _ _ _)
   | (with_reducible exact impl_Decimal.mono _ _)
   | (with_reducible exact LeO.refl _)
   | (with_reducible exact LeO.none _)
   | (with_reducible refine LeO.ite ?_ ?_)
   | (with_reducible refine LeO.bind ?_ (fun _ => ?_))
   | exact ih0 _ _ _ _
   | exact impl_Decimal.mono _ _
   | exact LeO.none _
   | refine LeO.ite ?_ ?_
   | refine LeO.bind ?_ (fun _ => ?_)
set_option maxHeartbeats 8000000 in
set_option maxRecDepth 100000 in
theorem impl_commas.calls (k : Nat) (A0 : Option Addr) (c0 : Nat) (l0 : List Int) (r : ByteArray) (w : World) (hr0 : Kd.C (Kd.int .i64) w A0 l0.length l0) (hc0 : l0.length ≤ c0) (h : impl_commas.f k l0 = some r) :
  Calls Try.prog 81 #[.slice A0 l0.length c0] w fun e w' => e = .returned (.string r) ∧ Below w.heap.size w w' := by
 have HR0 := Aside0.mk hr0; have HC0 := Aside0.mk hc0; clear hr0 hc0; have HB := Aside0.mk (Below.refl w.heap.size w); have H : (impl_commas.l0 k (⟨#[]⟩ : ByteArray) l0 (l0.length : Int) 0) = some r := h; clear h; have H' := Aside0.mk H; clear H; go_enter Try.func81, Try.ntmps81; go_wp2; go_loopg [3, 8] k (fun kq v3 v8 w' => ∃ (x3_1 : ByteArray) (x8_1 : Int), v3 = .string x3_1 ∧ v8 = .int .i64 x8_1 ∧ Aside0 (impl_commas.l0 kq x3_1 l0 (l0.length : Int) x8_1 = some r) ∧ Aside0 (kq ≤ k) ∧ Aside0 (Below w.heap.size w w'))
 case atStart => exact ⟨((⟨#[]⟩ : ByteArray)), (0), Bb_2, Bb_2, H', ⟨Nat.le_refl _⟩, ⟨hb_⟩⟩
 case round =>
  clear H'; obtain ⟨x3_1, x8_1, rfl, rfl, HA, HK1, HB⟩ := hrel; cases gk with
  | zero => exact absurd HA.out (by simp [impl_commas.l0])
  | succ k1 =>
   have H := HA.out; clear HA; simp only [impl_commas.l0] at H; by_cases c2 : x8_1 < (l0.length : Int)
   ·rw [if_pos c2] at H
    have c2b0 : decide (x8_1 < (l0.length : Int)) = true := decide_eq_true c2; clear c2; by_cases c3 : 0 ≤ x8_1
    ·rw [if_pos c3] at H
     have c3b0 : decide (0 ≤ x8_1) = true := decide_eq_true c3; clear c3; by_cases c4 : x8_1 < (l0.length : Int)
     ·rw [if_pos c4] at H
      have c4b0 : decide (x8_1 < (l0.length : Int)) = true := decide_eq_true c4; clear c4; by_cases c5 : x8_1 > 0
      ·rw [if_pos c5] at H
       have c5b0 : decide (0 < x8_1) = true := decide_eq_true c5; clear c5; by_cases c6 : x3_1.size + 1 ≤ 9223372036854775807
       ·rw [if_pos c6] at H
        have c6b0 := eq_true c6; have c6b1 : decide (x3_1.size + 1 ≤ 9223372036854775807) = true := decide_eq_true c6; try have c6b2 : (9223372036854775807 < x3_1.size + 1) = False := eq_false (Nat.not_lt.2 c6)
        by_cases c7 : (rd l0 x8_1) < 0
        ·rw [if_pos c7] at H
         have c7b0 : decide ((rd l0 x8_1) < 0) = true := decide_eq_true c7; clear c7; by_cases c8 : (x3_1 ++ (⟨#[44]⟩ : ByteArray)).size + 1 ≤ 9223372036854775807
         ·rw [if_pos c8] at H
          have c8b0 := eq_true c8; have c8b1 : decide ((x3_1 ++ (⟨#[44]⟩ : ByteArray)).size + 1 ≤ 9223372036854775807) = true := decide_eq_true c8; try have c8b2 : (9223372036854775807 < (x3_1 ++ (⟨#[44]⟩ : ByteArray)).size + 1) = False := eq_false (Nat.not_lt.2 c8)
          try have c8b3 : (9223372036854775807 < x3_1.size + 1 + 1) = False := eq_false (Nat.not_lt.2 (by have h_ := c8; simp only [ByteArray.size_append] at h_; exact h_))
          have H' := Aside0.mk H; clear H; have p224 : 0 ≤ (x8_1 : Int) := of_decide_eq_true Bb_1; have q224 : x8_1 < (l0.length : Int) := of_decide_eq_true Bb_1; obtain ⟨ad224, e224, hx224_0⟩ := Kd.at_int HR0.out x8_1 p224 q224; cases e224; replace hx224_0 := (HB.out.cell (World.block_lt_of_cell? w _ hx224_0)).trans hx224_0; replace p224 := eq_true p224; replace q224 := eq_true q224; go_wp2; go_roundg k1
          case measure => have := HK1.out; omega
          case rel => exact ⟨((x3_1 ++ (⟨#[44]⟩ : ByteArray)) ++ (⟨#[120]⟩ : ByteArray)), (wrap64 (x8_1 + 1)), Bb_2, Bb_2, H', ⟨Bb_15⟩, ⟨hb_⟩⟩
         ·rw [if_neg c8] at H
          exact absurd H (by simp)
        ·rw [if_neg c7] at H
         have c7b0 : decide ((rd l0 x8_1) < 0) = false := decide_eq_false c7; clear c7; replace H := Option.bind_eq_some_iff.mp H; obtain ⟨t225, A90, H⟩ := H; try dsimp only at H
         have A9 := Aside0.mk A90; clear A90; by_cases c10 : (x3_1 ++ (⟨#[44]⟩ : ByteArray)).size + t225.size ≤ 9223372036854775807
         ·rw [if_pos c10] at H
          have c10b0 := eq_true c10; have c10b1 : decide ((x3_1 ++ (⟨#[44]⟩ : ByteArray)).size + t225.size ≤ 9223372036854775807) = true := decide_eq_true c10; try have c10b2 : (9223372036854775807 < (x3_1 ++ (⟨#[44]⟩ : ByteArray)).size + t225.size) = False := eq_false (Nat.not_lt.2 c10)
          try have c10b3 : (9223372036854775807 < x3_1.size + 1 + t225.size) = False := eq_false (Nat.not_lt.2 (by have h_ := c10; simp only [ByteArray.size_append] at h_; exact h_))
          have H' := Aside0.mk H; clear H; have p224 : 0 ≤ (x8_1 : Int) := of_decide_eq_true Bb_1; have q224 : x8_1 < (l0.length : Int) := of_decide_eq_true Bb_1; obtain ⟨ad224, e224, hx224_0⟩ := Kd.at_int HR0.out x8_1 p224 q224; cases e224; replace hx224_0 := (HB.out.cell (World.block_lt_of_cell? w _ hx224_0)).trans hx224_0; replace p224 := eq_true p224; replace q224 := eq_true q224; go_wp2_with (first | ((with_reducible refine gate_callee (f := 72) rfl ?_); refine gA_ (some 23) Try.func72 (impl_Decimal.calls _ _ _ _ A9.out) ?_; rintro e w11 ⟨rfl, hb⟩; refine ⟨_, rfl, ?_⟩; replace HB := Aside0.mk (below_step hb_ hb); (try clear hb); (try clear hb2); (try clear hk); (try clear hi))); go_roundg k1
          case measure => have := HK1.out; omega
          case rel => exact ⟨((x3_1 ++ (⟨#[44]⟩ : ByteArray)) ++ t225), (wrap64 (x8_1 + 1)), Bb_2, Bb_2, H', ⟨Bb_15⟩, ⟨hb_⟩⟩
         ·rw [if_neg c10] at H
          exact absurd H (by simp)
       ·rw [if_neg c6] at H
        exact absurd H (by simp)
      ·rw [if_neg c5] at H
       have c5b0 : decide (0 < x8_1) = false := decide_eq_false c5; clear c5; by_cases c12 : (rd l0 x8_1) < 0
       ·rw [if_pos c12] at H
        have c12b0 : decide ((rd l0 x8_1) < 0) = true := decide_eq_true c12; clear c12; by_cases c13 : x3_1.size + 1 ≤ 9223372036854775807
        ·rw [if_pos c13] at H
         have c13b0 := eq_true c13; have c13b1 : decide (x3_1.size + 1 ≤ 9223372036854775807) = true := decide_eq_true c13; try have c13b2 : (9223372036854775807 < x3_1.size + 1) = False := eq_false (Nat.not_lt.2 c13)
         have H' := Aside0.mk H; clear H; have p224 : 0 ≤ (x8_1 : Int) := of_decide_eq_true Bb_1; have q224 : x8_1 < (l0.length : Int) := of_decide_eq_true Bb_1; obtain ⟨ad224, e224, hx224_0⟩ := Kd.at_int HR0.out x8_1 p224 q224; cases e224; replace hx224_0 := (HB.out.cell (World.block_lt_of_cell? w _ hx224_0)).trans hx224_0; replace p224 := eq_true p224; replace q224 := eq_true q224; go_wp2; go_roundg k1
         case measure => have := HK1.out; omega
         case rel => exact ⟨(x3_1 ++ (⟨#[120]⟩ : ByteArray)), (wrap64 (x8_1 + 1)), Bb_2, Bb_2, H', ⟨Bb_15⟩, ⟨hb_⟩⟩
        ·rw [if_neg c13] at H
         exact absurd H (by simp)
       ·rw [if_neg c12] at H
        have c12b0 : decide ((rd l0 x8_1) < 0) = false := decide_eq_false c12; clear c12; replace H := Option.bind_eq_some_iff.mp H; obtain ⟨t226, A140, H⟩ := H; try dsimp only at H
        have A14 := Aside0.mk A140; clear A140; by_cases c15 : x3_1.size + t226.size ≤ 9223372036854775807
        ·rw [if_pos c15] at H
         have c15b0 := eq_true c15; have c15b1 : decide (x3_1.size + t226.size ≤ 9223372036854775807) = true := decide_eq_true c15; try have c15b2 : (9223372036854775807 < x3_1.size + t226.size) = False := eq_false (Nat.not_lt.2 c15)
         have H' := Aside0.mk H; clear H; have p224 : 0 ≤ (x8_1 : Int) := of_decide_eq_true Bb_1; have q224 : x8_1 < (l0.length : Int) := of_decide_eq_true Bb_1; obtain ⟨ad224, e224, hx224_0⟩ := Kd.at_int HR0.out x8_1 p224 q224; cases e224; replace hx224_0 := (HB.out.cell (World.block_lt_of_cell? w _ hx224_0)).trans hx224_0; replace p224 := eq_true p224; replace q224 := eq_true q224; go_wp2_with (first | ((with_reducible refine gate_callee (f := 72) rfl ?_); refine gA_ (some 23) Try.func72 (impl_Decimal.calls _ _ _ _ A14.out) ?_; rintro e w16 ⟨rfl, hb⟩; refine ⟨_, rfl, ?_⟩; replace HB := Aside0.mk (below_step hb_ hb); (try clear hb); (try clear hb2); (try clear hk); (try clear hi))); go_roundg k1
         case measure => have := HK1.out; omega
         case rel => exact ⟨(x3_1 ++ t226), (wrap64 (x8_1 + 1)), Bb_2, Bb_2, H', ⟨Bb_15⟩, ⟨hb_⟩⟩
        ·rw [if_neg c15] at H
         exact absurd H (by simp)
     ·rw [if_neg c4] at H
      exact absurd H (by simp)
    ·rw [if_neg c3] at H
     exact absurd H (by simp)
   ·rw [if_neg c2] at H
    have c2b0 : decide (x8_1 < (l0.length : Int)) = false := decide_eq_false c2; clear c2; obtain rfl := Option.some.inj H; go_wp2; go_ret; exact ⟨Bb_0, hb_⟩
end Go.Proofs.Ytjmhhgnknjfnlaa.PFnLayouts
namespace Go.Proofs.Ytjmhhgnknjfnlaa.PFnLayouts
open Go.RowKit Go.Proofs.YtjmhhgnknjfnlaaW.PrintWords Go.Proofs.YtjmhhgnknjfnlaaW.PrintLast Go.Proofs.YtjmhhgnknjfnlaaW.PrintMore
attribute [local go_sem] max2_int min2_int max_two min_two max_three min_three max_four min_four
set_option linter.unusedVariables false
set_option linter.unusedSimpArgs false
def impl_LayoutText.f (k : Nat) (l0_0 : List Int) (l0_1 : List Int) (l0_2 : List Int) : Option (ByteArray × Bool) := (impl_LayoutOk.f k l0_0 l0_1 l0_2).bind fun t228 => (if t228 = true then ((impl_commas.f k l0_0).bind fun t229 => (if t229.size + 1 ≤ 9223372036854775807 then ((impl_commas.f k l0_1).bind fun t230 => (if (t229 ++ (⟨#[47]⟩ : ByteArray)).size + t230.size ≤ 9223372036854775807 then (if ((t229 ++ (⟨#[47]⟩ : ByteArray)) ++ t230).size + 1 ≤ 9223372036854775807 then ((impl_commas.f k l0_2).bind fun t231 => (if (((t229 ++ (⟨#[47]⟩ : ByteArray)) ++ t230) ++ (⟨#[47]⟩ : ByteArray)).size + t231.size ≤ 9223372036854775807 then (some ((((t229 ++ (⟨#[47]⟩ : ByteArray)) ++ t230) ++ (⟨#[47]⟩ : ByteArray)) ++ t231, true)) else (none))) else (none)) else (none))) else (none))) else (some ((⟨#[]⟩ : ByteArray), false)))
theorem impl_LayoutText.mono : ∀ a0 a1 a2 k, LeO (impl_LayoutText.f k a0 a1 a2) (impl_LayoutText.f (k + 1) a0 a1 a2) := by
 intro a0 a1 a2 k; unfold impl_LayoutText.f
 repeat' first
   | (with_reducible exact impl_LayoutOk.mono _ _ _ _)
   | (with_reducible exact impl_commas.mono _ _)
   | (with_reducible exact LeO.refl _)
   | (with_reducible exact LeO.none _)
   | (with_reducible refine LeO.ite ?_ ?_)
   | (with_reducible refine LeO.bind ?_ (fun _ => ?_))
   | exact impl_LayoutOk.mono _ _ _ _
   | exact impl_commas.mono _ _
   | exact LeO.none _
   | refine LeO.ite ?_ ?_
   | refine LeO.bind ?_ (fun _ => ?_)
def impl_LayoutText.T3 : Bool × List (List Nat × List Nat) := (true, [([], []), ([0], [0]), ([1], [1]), ([2], [2]), ([], []), ([4], [4]), ([5, 2], [5]), ([3, 6], [3, 6]), ([7], [7]), ([], []), ([9], [9]), ([10, 6], [10]), ([8, 11], [8, 11]), ([12, 11, 0, 1, 2, 3, 4, 5, 6, 7, 8, 9, 10, 11, 12], [12]), ([13, 0, 1, 2, 3, 4, 5, 6, 7, 8, 9, 10, 11, 12, 13], [])])
def impl_LayoutText.B3 : List Nat := [0, 1, 3, 7, 0, 16, 55, 127, 255, 0, 512, 1655, 4095, 8191, 16383]
theorem impl_LayoutText.tab3 : rtab .any (opsOf Try.f23 3) = impl_LayoutText.T3 := by kernel_rfl
theorem impl_LayoutText.bits3 : waitsOk impl_LayoutText.T3.2 impl_LayoutText.B3 = true := by kernel_rfl
set_option maxHeartbeats 8000000 in
set_option maxRecDepth 100000 in
theorem impl_LayoutText.calls (k : Nat) (A0_0 : Option Addr) (c0_0 : Nat) (l0_0 : List Int) (A0_1 : Option Addr) (c0_1 : Nat) (l0_1 : List Int) (A0_2 : Option Addr) (c0_2 : Nat) (l0_2 : List Int) (r1 : ByteArray) (r2 : Bool) (w : World) (hr0_0 : Kd.C (Kd.int .i64) w A0_0 l0_0.length l0_0) (hc0_0 : l0_0.length ≤ c0_0) (hr0_1 : Kd.C (Kd.int .i64) w A0_1 l0_1.length l0_1) (hc0_1 : l0_1.length ≤ c0_1) (hr0_2 : Kd.C (Kd.int .i64) w A0_2 l0_2.length l0_2) (hc0_2 : l0_2.length ≤ c0_2) (h : impl_LayoutText.f k l0_0 l0_1 l0_2 = some (r1, r2)) :
  Calls Try.prog 23 #[.agg #[.slice A0_0 l0_0.length c0_0, .slice A0_1 l0_1.length c0_1, .slice A0_2 l0_2.length c0_2]] w fun e w' => e = .returned (.tuple #[.string r1, .bool r2]) ∧ Below w.heap.size w w' := by
 have hu39 := Try.underlying39; have HR0_0 := Aside0.mk hr0_0; have HC0_0 := Aside0.mk hc0_0; clear hr0_0 hc0_0; have HR0_1 := Aside0.mk hr0_1; have HC0_1 := Aside0.mk hc0_1; clear hr0_1 hc0_1; have HR0_2 := Aside0.mk hr0_2; have HC0_2 := Aside0.mk hc0_2; clear hr0_2 hc0_2; have HB := Aside0.mk (Below.refl w.heap.size w); have H : ((impl_LayoutOk.f k l0_0 l0_1 l0_2).bind fun t228 => (if t228 = true then ((impl_commas.f k l0_0).bind fun t229 => (if t229.size + 1 ≤ 9223372036854775807 then ((impl_commas.f k l0_1).bind fun t230 => (if (t229 ++ (⟨#[47]⟩ : ByteArray)).size + t230.size ≤ 9223372036854775807 then (if ((t229 ++ (⟨#[47]⟩ : ByteArray)) ++ t230).size + 1 ≤ 9223372036854775807 then ((impl_commas.f k l0_2).bind fun t231 => (if (((t229 ++ (⟨#[47]⟩ : ByteArray)) ++ t230) ++ (⟨#[47]⟩ : ByteArray)).size + t231.size ≤ 9223372036854775807 then (some ((((t229 ++ (⟨#[47]⟩ : ByteArray)) ++ t230) ++ (⟨#[47]⟩ : ByteArray)) ++ t231, true)) else (none))) else (none)) else (none))) else (none))) else (some ((⟨#[]⟩ : ByteArray), false)))) = some (r1, r2) := h; clear h; replace H := Option.bind_eq_some_iff.mp H; obtain ⟨t228, A20, H⟩ := H; try dsimp only at H
 have A2 := Aside0.mk A20; clear A20; have HC3 := Aside0.mk H; clear H; go_enter Try.func23, Try.ntmps23; go_upto_if 6 with (first | ((with_reducible refine gate_dst (N := 1) rfl ?_); refine bx_ (N := 1) (cs := #[.slice A0_0 l0_0.length c0_0, .slice A0_1 l0_1.length c0_1, .slice A0_2 l0_2.length c0_2]) (t := 39) ?_; intro gb227 hg w4 hbox hb; have BK227 := Aside0.mk (hbox); have GW227 := gw_ hg hb_; have GE227 := gw_ hg hb_; replace HB := Aside0.mk (below_step hb_ hb); clear hb hbox hg; have hz5 := bc3_ BK227.out) | ((with_reducible refine gate_callee (f := 80) rfl ?_); refine gA_ (some 5) Try.func80 (impl_LayoutOk.calls _ _ _ _ _ _ _ _ _ _ _ _ ?side1 ?side2 ?side3 ?side4 ?side5 ?side6 A2.out) ?_; (case side1 => repeat (first | exact (Kd.C_below HR0_0.out HB.out) | (with_reducible refine Kd.C_alloc ?_ _) | (with_reducible refine Kd.C_drewN ?_ _) | (with_reducible refine Kd.C_drew ?_))); (case side2 => exact HC0_0.out); (case side3 => repeat (first | exact (Kd.C_below HR0_1.out HB.out) | (with_reducible refine Kd.C_alloc ?_ _) | (with_reducible refine Kd.C_drewN ?_ _) | (with_reducible refine Kd.C_drew ?_))); (case side4 => exact HC0_1.out); (case side5 => repeat (first | exact (Kd.C_below HR0_2.out HB.out) | (with_reducible refine Kd.C_alloc ?_ _) | (with_reducible refine Kd.C_drewN ?_ _) | (with_reducible refine Kd.C_drew ?_))); (case side6 => exact HC0_2.out); rintro e w6 ⟨rfl, hb⟩; refine ⟨_, rfl, ?_⟩; replace BK227 := bb_ BK227 hb; replace HB := Aside0.mk (below_step hb_ hb); (try clear hb); (try clear hb2); (try clear hk); (try clear hi)))
 (try simp only [Act.put, List.setIfInBounds_toArray, List.set_cons_zero, List.set_cons_succ]); have H := HC3.out; clear HC3; by_cases c7 : t228 = true
 ·subst c7
  rw [if_pos rfl] at H; replace H := Option.bind_eq_some_iff.mp H; obtain ⟨t229, A80, H⟩ := H; try dsimp only at H
  have A8 := Aside0.mk A80; clear A80; by_cases c9 : t229.size + 1 ≤ 9223372036854775807
  ·rw [if_pos c9] at H
   have c9b0 := eq_true c9; have c9b1 : decide (t229.size + 1 ≤ 9223372036854775807) = true := decide_eq_true c9; try have c9b2 : (9223372036854775807 < t229.size + 1) = False := eq_false (Nat.not_lt.2 c9)
   replace H := Option.bind_eq_some_iff.mp H; obtain ⟨t230, A100, H⟩ := H; try dsimp only at H
   have A10 := Aside0.mk A100; clear A100; by_cases c11 : (t229 ++ (⟨#[47]⟩ : ByteArray)).size + t230.size ≤ 9223372036854775807
   ·rw [if_pos c11] at H
    have c11b0 := eq_true c11; have c11b1 : decide ((t229 ++ (⟨#[47]⟩ : ByteArray)).size + t230.size ≤ 9223372036854775807) = true := decide_eq_true c11; try have c11b2 : (9223372036854775807 < (t229 ++ (⟨#[47]⟩ : ByteArray)).size + t230.size) = False := eq_false (Nat.not_lt.2 c11)
    try have c11b3 : (9223372036854775807 < t229.size + 1 + t230.size) = False := eq_false (Nat.not_lt.2 (by have h_ := c11; simp only [ByteArray.size_append] at h_; exact h_))
    by_cases c12 : ((t229 ++ (⟨#[47]⟩ : ByteArray)) ++ t230).size + 1 ≤ 9223372036854775807
    ·rw [if_pos c12] at H
     have c12b0 := eq_true c12; have c12b1 : decide (((t229 ++ (⟨#[47]⟩ : ByteArray)) ++ t230).size + 1 ≤ 9223372036854775807) = true := decide_eq_true c12; try have c12b2 : (9223372036854775807 < ((t229 ++ (⟨#[47]⟩ : ByteArray)) ++ t230).size + 1) = False := eq_false (Nat.not_lt.2 c12)
     try have c12b3 : (9223372036854775807 < t229.size + 1 + t230.size + 1) = False := eq_false (Nat.not_lt.2 (by have h_ := c12; simp only [ByteArray.size_append] at h_; exact h_))
     replace H := Option.bind_eq_some_iff.mp H; obtain ⟨t231, A130, H⟩ := H; try dsimp only at H
     have A13 := Aside0.mk A130; clear A130; by_cases c14 : (((t229 ++ (⟨#[47]⟩ : ByteArray)) ++ t230) ++ (⟨#[47]⟩ : ByteArray)).size + t231.size ≤ 9223372036854775807
     ·rw [if_pos c14] at H
      have c14b0 := eq_true c14; have c14b1 : decide ((((t229 ++ (⟨#[47]⟩ : ByteArray)) ++ t230) ++ (⟨#[47]⟩ : ByteArray)).size + t231.size ≤ 9223372036854775807) = true := decide_eq_true c14; try have c14b2 : (9223372036854775807 < (((t229 ++ (⟨#[47]⟩ : ByteArray)) ++ t230) ++ (⟨#[47]⟩ : ByteArray)).size + t231.size) = False := eq_false (Nat.not_lt.2 c14)
      try have c14b3 : (9223372036854775807 < t229.size + 1 + t230.size + 1 + t231.size) = False := eq_false (Nat.not_lt.2 (by have h_ := c14; simp only [ByteArray.size_append] at h_; exact h_))
      simp only [Option.some.injEq, Prod.mk.injEq] at H; obtain ⟨rfl, rfl⟩ := H; try go_wp2
      replace BK227 := Aside0.mk (blk_drew BK227.out); replace HB := Aside0.mk (below_drew1 HB.out); refine start_ (n := 15) (S := fun w' => w'.cell? ⟨gb227, 0, none⟩ = some (.slice A0_0 l0_0.length c0_0) ∧ w'.cell? ⟨gb227, 1, none⟩ = some (.slice A0_1 l0_1.length c0_1) ∧ w'.cell? ⟨gb227, 2, none⟩ = some (.slice A0_2 l0_2.length c0_2)) (ds := []) u15_0 (by kernel_rfl) rfl rfl ⟨(blk_cell BK227.out 0).trans rfl, (blk_cell BK227.out 1).trans rfl, (blk_cell BK227.out 2).trans rfl⟩ (fun hHeld => ?_); refine with_tabW impl_LayoutText.tab3 impl_LayoutText.bits3 (fun HT_ HW_ => ?_); generalize w6.drew = w15 at BK227 HB hHeld ⊢
      refine pu_ HT_.out 0 (some 7) u15_1 ?_; refine pu_ HT_.out 4 (some 11) u15_4400x ?_; refine pu_ HT_.out 9 (some 16) u15_4420x ?_; refine take_ (i := 1) (N := some 8) (v := ?_) (a' := ?_) u15_6420x rfl rfl (take_ofW HT_.out HW_.out (by kernel_rfl)) (fun _ _ _ h => h) (Or.inl ⟨(by rfl), ?_⟩) hHeld ?_ ?_; rotate_left
      ·rintro w' ⟨s0, s1, s2⟩
       go_simp; with_reducible rfl
      rotate_left
      ·simp only [Act.put, List.setIfInBounds_toArray, List.set_cons_zero, List.set_cons_succ, i64_w, i32_w]
       rfl
      refine take_ (i := 5) (N := some 12) (v := ?_) (a' := ?_) u15_6620x rfl rfl (take_ofW HT_.out HW_.out (by kernel_rfl)) (fun _ _ _ h => h) (Or.inl ⟨(by rfl), ?_⟩) hHeld ?_ ?_; rotate_left
      ·rintro w' ⟨s0, s1, s2⟩
       go_simp; with_reducible rfl
      rotate_left
      ·simp only [Act.put, List.setIfInBounds_toArray, List.set_cons_zero, List.set_cons_succ, i64_w, i32_w]
       rfl
      refine take_ (i := 10) (N := some 17) (v := ?_) (a' := ?_) u15_6630x rfl rfl (take_ofW HT_.out HW_.out (by kernel_rfl)) (fun _ _ _ h => h) (Or.inl ⟨(by rfl), ?_⟩) hHeld ?_ ?_; rotate_left
      ·rintro w' ⟨s0, s1, s2⟩
       go_simp; with_reducible rfl
      rotate_left
      ·simp only [Act.put, List.setIfInBounds_toArray, List.set_cons_zero, List.set_cons_succ, i64_w, i32_w]
       rfl
      refine one_ (i := 2) (N := some 9) u15_7630x rfl rfl (one_of HT_.out (by kernel_rfl)) (by decide) (fun K hK => ?_); refine goes_ Try.func81 (by kernel_rfl) rfl #[.slice A0_0 l0_0.length c0_0] (by rfl) rfl rfl Bb_3 ?_; with_reducible refine (impl_commas.calls k _ _ l0_0 t229 _ ?side1 ?side2 A8.out).mono ?_
      (case side1 => repeat (first | exact (Kd.C_below HR0_0.out HB.out) | (with_reducible refine Kd.C_alloc ?_ _) | (with_reducible refine Kd.C_drewN ?_ _) | (with_reducible refine Kd.C_drew ?_))); (case side2 => exact HC0_0.out); rintro e w16 ⟨rfl, hb⟩; refine ⟨_, rfl, ?_⟩; replace BK227 := bb_ BK227 hb; replace HB := Aside0.mk (below_step hb_ hb); (try clear hb); (try clear hb2); (try clear hk); (try clear hi); refine hK.out _ _ Bb_11 (fun hHeld => ?_); clear hK K; refine no_ 9 ?_; refine pu_ HT_.out 3 (some 10) u15_7e30x ?_; refine one_ (i := 6) (N := some 13) u15_7f30x rfl rfl (one_of HT_.out (by kernel_rfl)) (by decide) (fun K hK => ?_); refine goes_ Try.func81 (by kernel_rfl) rfl #[.slice A0_1 l0_1.length c0_1] (by rfl) rfl rfl Bb_3 ?_; with_reducible refine (impl_commas.calls k _ _ l0_1 t230 _ ?side1 ?side2 A10.out).mono ?_
      (case side1 => repeat (first | exact (Kd.C_below HR0_1.out HB.out) | (with_reducible refine Kd.C_alloc ?_ _) | (with_reducible refine Kd.C_drewN ?_ _) | (with_reducible refine Kd.C_drew ?_))); (case side2 => exact HC0_1.out); rintro e w17 ⟨rfl, hb⟩; refine ⟨_, rfl, ?_⟩; replace BK227 := bb_ BK227 hb; replace HB := Aside0.mk (below_step hb_ hb); (try clear hb); (try clear hb2); (try clear hk); (try clear hi); refine hK.out _ _ Bb_11 (fun hHeld => ?_); clear hK K; refine no_ 13 ?_; refine pu_ HT_.out 7 (some 14) u15_7fb0x ?_; refine pu_ HT_.out 8 (some 15) u15_11 ?_; refine one_ (i := 11) (N := some 18) u15_12 rfl rfl (one_of HT_.out (by kernel_rfl)) (by decide) (fun K hK => ?_); refine goes_ Try.func81 (by kernel_rfl) rfl #[.slice A0_2 l0_2.length c0_2] (by rfl) rfl rfl Bb_3 ?_; with_reducible refine (impl_commas.calls k _ _ l0_2 t231 _ ?side1 ?side2 A13.out).mono ?_
      (case side1 => repeat (first | exact (Kd.C_below HR0_2.out HB.out) | (with_reducible refine Kd.C_alloc ?_ _) | (with_reducible refine Kd.C_drewN ?_ _) | (with_reducible refine Kd.C_drew ?_))); (case side2 => exact HC0_2.out); rintro e w18 ⟨rfl, hb⟩; refine ⟨_, rfl, ?_⟩; replace BK227 := bb_ BK227 hb; replace HB := Aside0.mk (below_step hb_ hb); (try clear hb); (try clear hb2); (try clear hk); (try clear hi); refine hK.out _ _ Bb_11 (fun hHeld => ?_); clear hK K; refine no_ 18 ?_; refine pu_ HT_.out 12 (some 19) u15_13 ?_; refine pu_ HT_.out 13 (some 2) u15_14 ?_; refine pu_ HT_.out 14 (some 3) u15_15 ?_; refine done_ (done_of HT_.out (by kernel_rfl)) ?_; try go_wp2
      go_ret2
      exact ⟨Bb_0, hb_⟩
     ·rw [if_neg c14] at H
      exact absurd H (by simp)
    ·rw [if_neg c12] at H
     exact absurd H (by simp)
   ·rw [if_neg c11] at H
    exact absurd H (by simp)
  ·rw [if_neg c9] at H
   exact absurd H (by simp)
 ·replace c7 := Bool.eq_false_iff.mpr c7
  subst c7; rw [if_neg (show ¬ (false = true) by decide)] at H; simp only [Option.some.injEq, Prod.mk.injEq] at H; obtain ⟨rfl, rfl⟩ := H; go_wp2; go_ret2
  exact ⟨Bb_0, hb_⟩
end Go.Proofs.Ytjmhhgnknjfnlaa.PFnLayouts
namespace Go.Proofs.Ytjmhhgnknjfnlaa.PFnLayouts
open Go.RowKit Go.Proofs.YtjmhhgnknjfnlaaW.PrintWords Go.Proofs.YtjmhhgnknjfnlaaW.PrintLast Go.Proofs.YtjmhhgnknjfnlaaW.PrintMore
attribute [local go_sem] max2_int min2_int max_two min_two max_three min_three max_four min_four
set_option linter.unusedVariables false
set_option linter.unusedSimpArgs false
def impl_cut.l0 : Nat → ByteArray → Int → List ByteArray → Int → Int → Option (List ByteArray)
 | 0, _, _, _, _, _ => none
 | k + 1, x0, x1, x5, x6, x7 => if x7 < (x0.size : Int) then (if 0 ≤ x7 then (if (bt x0 x7) = x1 then (if 0 ≤ x6 then (if x6 ≤ x7 then (if x7 ≤ (x0.size : Int) then (if x5.length < 8796093022208 then (impl_cut.l0 k x0 x1 (x5 ++ [x0.extract (x6 : Int).toNat (x7 : Int).toNat]) (wrap64 (x7 + 1)) (wrap64 (x7 + 1))) else (none)) else (none)) else (none)) else (none)) else (impl_cut.l0 k x0 x1 x5 x6 (wrap64 (x7 + 1)))) else (none)) else (if 0 ≤ x6 then (if x6 ≤ (x0.size : Int) then (if x5.length < 8796093022208 then (some (x5 ++ [x0.extract (x6 : Int).toNat x0.size])) else (none)) else (none)) else (none))
def impl_cut.f (k : Nat) (a0 : ByteArray) (a1 : Int) : Option (List ByteArray) := impl_cut.l0 k a0 a1 (([] : List ByteArray)) 0 0
theorem impl_cut.mono_l : ∀ k, (∀ y0 y1 y2 y3 y4, LeO (impl_cut.l0 k y0 y1 y2 y3 y4) (impl_cut.l0 (k + 1) y0 y1 y2 y3 y4))
 | 0 => fun _ _ _ _ _ r h => by simp [impl_cut.l0] at h
 | k + 1 => by
  have ih0 := impl_cut.mono_l k
  ·intro y0 y1 y2 y3 y4
   unfold impl_cut.l0
   repeat' first
   | (with_reducible exact ih0 _ _ _ _ _)
   | (with_reducible exact LeO.refl _)
   | (with_reducible exact LeO.none _)
   | (with_reducible refine LeO.ite ?_ ?_)
   | (with_reducible refine LeO.bind ?_ (fun _ => ?_))
   | exact ih0 _ _ _ _ _
   | exact LeO.none _
   | refine LeO.ite ?_ ?_
   | refine LeO.bind ?_ (fun _ => ?_)
theorem impl_cut.mono : ∀ a0 a1 k, LeO (impl_cut.f k a0 a1) (impl_cut.f (k + 1) a0 a1) := by
 intro a0 a1 k; have ih0 := impl_cut.mono_l k; unfold impl_cut.f
 repeat' first
   | (with_reducible exact ih0 _ _ _ _ _)
   | (with_reducible exact LeO.refl _)
   | (with_reducible exact LeO.none _)
   | (with_reducible refine LeO.ite ?_ ?_)
   | (with_reducible refine LeO.bind ?_ (fun _ => ?_))
   | exact ih0 _ _ _ _ _
   | exact LeO.none _
   | refine LeO.ite ?_ ?_
   | refine LeO.bind ?_ (fun _ => ?_)
set_option maxHeartbeats 8000000 in
set_option maxRecDepth 100000 in
theorem impl_cut.calls (k : Nat) (a0 : ByteArray) (a1 : Int) (r : List ByteArray) (w : World) (h : impl_cut.f k a0 a1 = some r) :
  Calls Try.prog 75 #[.string a0, .int .u8 a1] w fun e w' => ∃ v0_ : Value, e = .returned (v0_) ∧ Kd.R Kd.string 9 w' w.heap.size (fun _ => True) v0_ r ∧ Below w.heap.size w w' := by
 have HB := Aside0.mk (Below.refl w.heap.size w); have H : (impl_cut.l0 k a0 a1 (([] : List ByteArray)) 0 0) = some r := h; clear h; obtain ⟨y232, hy232⟩ : ∃ y_ : List ByteArray, y_ = (([] : List ByteArray)) := ⟨_, rfl⟩; replace H : (impl_cut.l0 k a0 a1 y232 0 0) = some r := by first | (rw [hy232]; with_reducible exact H) | (have H2_ := (Option.bind_some _ _).symm.trans H; rw [hy232]; with_reducible exact H2_) | (have H2_ := (Option.bind_some _ _).symm.trans H; with_reducible exact H2_) | with_reducible exact H | (rw [hy232]; exact H) | exact H
 have Ny232 := Aside0.mk hy232; clear hy232; have H' := Aside0.mk H; clear H; go_enter Try.func75, Try.ntmps75; go_wp2_with (first | ((with_reducible refine gate_dst (N := 8) rfl ?_); refine Kd.R_lit Kd.string _ 9 ?hg (N := 8) ?hd (xs := ([] : List ByteArray)) (inner := []) (ok := fun _ => True) (okp := fun _ => True) ?hr ?hp (fun _ hk => hk) trivial (Below.refl _ _) (Nat.le_refl _) (by simp) ?_; (case hd => rfl); (case hg => rfl); (case hr => first | (go_simp; done) | (go_simp; rfl)); (case hp => exact (Reps.none _ _)); intro v233 w3 ho4 hb hg_ hnew_; clear hg_ hnew_; (first | rw [← Ny232.out] at ho4 | (simp only [Int.reduceToNat] at ho4; rw [← Ny232.out] at ho4)); have HO234 := Aside0.mk (Kd.R_lower ho4 (below_size hb_)); replace HB := Aside0.mk (below_step hb_ hb); clear hb ho4)); go_loopg [5, 6, 7] k (fun kq v5 v6 v7 w' => ∃ (x5_1 : List ByteArray) (x6_1 : Int) (x7_1 : Int), v6 = .int .i64 x6_1 ∧ v7 = .int .i64 x7_1 ∧ Aside0 (impl_cut.l0 kq a0 a1 x5_1 x6_1 x7_1 = some r) ∧ Aside0 (kq ≤ k) ∧ Aside0 (Kd.R Kd.string 9 w' w.heap.size (fun _ => True) v5 x5_1) ∧ Aside0 (Below w.heap.size w w'))
 case atStart => exact ⟨(y232), (0), (0), Bb_2, Bb_2, H', ⟨Nat.le_refl _⟩, ⟨(by (with_reducible repeat (first | apply Kd.R_alloc | apply Kd.R_drewN | apply Kd.R_drew)); exact HO234.out)⟩, ⟨hb_⟩⟩
 case round =>
  clear H'; try clear p2
  obtain ⟨x5_1, x6_1, x7_1, rfl, rfl, HA, HK1, HO_5, HB⟩ := hrel; cases gk with
  | zero => exact absurd HA.out (by simp [impl_cut.l0])
  | succ k1 =>
   have H := HA.out; clear HA; simp only [impl_cut.l0] at H; by_cases c5 : x7_1 < (a0.size : Int)
   ·rw [if_pos c5] at H
    have c5b0 : decide (x7_1 < (a0.size : Int)) = true := decide_eq_true c5; clear c5; by_cases c6 : 0 ≤ x7_1
    ·rw [if_pos c6] at H
     have c6b0 : decide (0 ≤ x7_1) = true := decide_eq_true c6; clear c6; by_cases c8 : (bt a0 x7_1) = a1
     ·rw [if_pos c8] at H
      have c8b0 : ((bt a0 x7_1) == a1) = true := beq_iff_eq.mpr c8; have c8b1 : ((bt a0 x7_1) != a1) = false := bne_eq_false_iff_eq.mpr c8; clear c8; by_cases c9 : 0 ≤ x6_1
      ·rw [if_pos c9] at H
       have c9b0 := eq_true c9; have c9b1 : decide (0 ≤ x6_1) = true := decide_eq_true c9; clear c9; by_cases c10 : x6_1 ≤ x7_1
       ·rw [if_pos c10] at H
        have c10b0 := eq_true c10; have c10b1 : decide (x6_1 ≤ x7_1) = true := decide_eq_true c10; clear c10; by_cases c11 : x7_1 ≤ (a0.size : Int)
        ·rw [if_pos c11] at H
         have c11b0 := eq_true c11; have c11b1 : decide (x7_1 ≤ (a0.size : Int)) = true := decide_eq_true c11; clear c11; by_cases c12 : x5_1.length < 8796093022208
         ·rw [if_pos c12] at H
          have LMc12 := Aside0.mk c12; clear c12; obtain ⟨y235, hy235⟩ : ∃ y_ : List ByteArray, y_ = (x5_1 ++ [a0.extract (x6_1 : Int).toNat (x7_1 : Int).toNat]) := ⟨_, rfl⟩; replace H : (impl_cut.l0 k1 a0 a1 y235 (wrap64 (x7_1 + 1)) (wrap64 (x7_1 + 1))) = some r := by first | (rw [hy235]; with_reducible exact H) | (have H2_ := (Option.bind_some _ _).symm.trans H; rw [hy235]; with_reducible exact H2_) | (have H2_ := (Option.bind_some _ _).symm.trans H; with_reducible exact H2_) | with_reducible exact H | (rw [hy235]; exact H) | exact H
          have Ny235 := Aside0.mk hy235; clear hy235; have H' := Aside0.mk H; clear H; have p7 : 0 ≤ (x7_1 : Int) := of_decide_eq_true Bb_1; have q7 : x7_1 < (a0.size : Int) := of_decide_eq_true Bb_1; have hx7 := bt_at a0 x7_1; replace p7 := eq_true p7; replace q7 := eq_true q7; go_wp2_with (first | ((with_reducible refine gate_builtin (b := .append) (xs := #[.tmp 20, .tmp 25]) rfl ?_); at_builtin; refine Kd.R_append Kd.string (w0 := w) w.heap.size rfl (.tmp 20) (.tmp 25) 121 9 (.string ⟨#[]⟩) 16 rfl Try.underlying121 info9 rfl (by decide) (by omega) u5 x5_1 (a0.extract (x6_1 : Int).toNat (x7_1 : Int).toNat) [.string (a0.extract (x6_1 : Int).toNat (x7_1 : Int).toNat)] (fun _ => True) (fun _ => False) rfl rfl ?aP (fun _ hk => hk.elim) ?aF ?aO ?aB ?aS ?aL ?_; (case aP => exact rfl); (case aB => exact hb_); (case aF => exact (fun _ _ => trivial)); (case aO => exact Bb_13); (case aS => exact (below_size hb_)); (case aL => have := LMc12.out; omega); intro v236 w13 ho hb hg hat; rw [← Ny235.out] at ho; replace HB := Aside0.mk (hb); have HO237 := Aside0.mk (ho); clear HO_5; clear ho hb hg hat)); go_roundg k1
          case measure => have := HK1.out; omega
          case rel => exact ⟨(y235), (wrap64 (x7_1 + 1)), (wrap64 (x7_1 + 1)), Bb_2, Bb_2, H', ⟨Bb_15⟩, ⟨(by (with_reducible repeat (first | apply Kd.R_alloc | apply Kd.R_drewN | apply Kd.R_drew)); exact HO237.out)⟩, ⟨hb_⟩⟩
         ·rw [if_neg c12] at H
          exact absurd H (by simp)
        ·rw [if_neg c11] at H
         exact absurd H (by simp)
       ·rw [if_neg c10] at H
        exact absurd H (by simp)
      ·rw [if_neg c9] at H
       exact absurd H (by simp)
     ·rw [if_neg c8] at H
      have c8b0 : ((bt a0 x7_1) == a1) = false := beq_eq_false_iff_ne.mpr c8; have c8b1 : ((bt a0 x7_1) != a1) = true := bne_iff_ne.mpr c8; have H' := Aside0.mk H; clear H; have p7 : 0 ≤ (x7_1 : Int) := of_decide_eq_true Bb_1; have q7 : x7_1 < (a0.size : Int) := of_decide_eq_true Bb_1; have hx7 := bt_at a0 x7_1; replace p7 := eq_true p7; replace q7 := eq_true q7; go_wp2; go_roundg k1
      case measure => have := HK1.out; omega
      case rel => exact ⟨(x5_1), (x6_1), (wrap64 (x7_1 + 1)), Bb_2, Bb_2, H', ⟨Bb_15⟩, ⟨Bb_13⟩, ⟨hb_⟩⟩
    ·rw [if_neg c6] at H
     exact absurd H (by simp)
   ·rw [if_neg c5] at H
    have c5b0 : decide (x7_1 < (a0.size : Int)) = false := decide_eq_false c5; clear c5; by_cases c14 : 0 ≤ x6_1
    ·rw [if_pos c14] at H
     have c14b0 := eq_true c14; have c14b1 : decide (0 ≤ x6_1) = true := decide_eq_true c14; clear c14; by_cases c15 : x6_1 ≤ (a0.size : Int)
     ·rw [if_pos c15] at H
      have c15b0 := eq_true c15; have c15b1 : decide (x6_1 ≤ (a0.size : Int)) = true := decide_eq_true c15; clear c15; by_cases c16 : x5_1.length < 8796093022208
      ·rw [if_pos c16] at H
       have LMc16 := Aside0.mk c16; clear c16; obtain ⟨y238, hy238⟩ : ∃ y_ : List ByteArray, y_ = (x5_1 ++ [a0.extract (x6_1 : Int).toNat a0.size]) := ⟨_, rfl⟩; replace H : (some y238) = some r := by first | (rw [hy238]; with_reducible exact H) | (have H2_ := (Option.bind_some _ _).symm.trans H; rw [hy238]; with_reducible exact H2_) | (have H2_ := (Option.bind_some _ _).symm.trans H; with_reducible exact H2_) | with_reducible exact H | (rw [hy238]; exact H) | exact H
       have Ny238 := Aside0.mk hy238; clear hy238; obtain rfl := Option.some.inj H; go_wp2_with (first | ((with_reducible refine gate_builtin (b := .append) (xs := #[.tmp 29, .tmp 33]) rfl ?_); at_builtin; refine Kd.R_append Kd.string (w0 := w) w.heap.size rfl (.tmp 29) (.tmp 33) 121 9 (.string ⟨#[]⟩) 16 rfl Try.underlying121 info9 rfl (by decide) (by omega) u5 x5_1 (a0.extract (x6_1 : Int).toNat a0.size) [.string (a0.extract (x6_1 : Int).toNat a0.size)] (fun _ => True) (fun _ => False) rfl rfl ?aP (fun _ hk => hk.elim) ?aF ?aO ?aB ?aS ?aL ?_; (case aP => exact rfl); (case aB => exact hb_); (case aF => exact (fun _ _ => trivial)); (case aO => exact Bb_13); (case aS => exact (below_size hb_)); (case aL => have := LMc16.out; omega); intro v239 w17 ho hb hg hat; rw [← Ny238.out] at ho; replace HB := Aside0.mk (hb); have HO240 := Aside0.mk (ho); clear HO_5; clear ho hb hg hat)); go_ret; exact ⟨_, Bb_0, (by (with_reducible repeat (first | apply Kd.R_alloc | apply Kd.R_drewN | apply Kd.R_drew)); exact HO240.out), hb_⟩
      ·rw [if_neg c16] at H
       exact absurd H (by simp)
     ·rw [if_neg c15] at H
      exact absurd H (by simp)
    ·rw [if_neg c14] at H
     exact absurd H (by simp)
end Go.Proofs.Ytjmhhgnknjfnlaa.PFnLayouts
namespace Go.Proofs.Ytjmhhgnknjfnlaa.PFnLayouts
open Go.RowKit Go.Proofs.YtjmhhgnknjfnlaaW.PrintWords Go.Proofs.YtjmhhgnknjfnlaaW.PrintLast Go.Proofs.YtjmhhgnknjfnlaaW.PrintMore
attribute [local go_sem] max2_int min2_int max_two min_two max_three min_three max_four min_four
set_option linter.unusedVariables false
set_option linter.unusedSimpArgs false
def impl_ReadDecimal.l0 : Nat → ByteArray → Int → Int → Option (Int × Bool)
 | 0, _, _, _ => none
 | k + 1, x0, x4, x5 => if x5 < (x0.size : Int) then (if 0 ≤ x5 then (if (bt x0 x5) < 48 then (some (0, false)) else (if (bt x0 x5) > 57 then (some (0, false)) else (impl_ReadDecimal.l0 k x0 (wrap64 ((wrap64 (10 * x4)) + (((bt x0 x5) - 48) % 256))) (wrap64 (x5 + 1))))) else (none)) else (if x4 > 1000000000 then (some (0, false)) else ((impl_Decimal.f k x4).bind fun t242 => (if t242.toList = x0.toList then (some (x4, true)) else (some (0, false)))))
def impl_ReadDecimal.f (k : Nat) (a0 : ByteArray) : Option (Int × Bool) := (impl_within.f (a0.size : Int) 1 10).bind fun t241 => (if t241 = true then (impl_ReadDecimal.l0 k a0 0 0) else (some (0, false)))
theorem impl_ReadDecimal.mono_l : ∀ k, (∀ y0 y1 y2, LeO (impl_ReadDecimal.l0 k y0 y1 y2) (impl_ReadDecimal.l0 (k + 1) y0 y1 y2))
 | 0 => fun _ _ _ r h => by simp [impl_ReadDecimal.l0] at h
 | k + 1 => by
  have ih0 := impl_ReadDecimal.mono_l k
  ·intro y0 y1 y2
   unfold impl_ReadDecimal.l0
   repeat' first
   | (with_reducible exact ih0 _ _ _)
   | (with_reducible exact impl_Decimal.mono _ _)
   | (with_reducible exact LeO.refl _)
   | (with_reducible exact LeO.none _)
   | (with_reducible refine LeO.ite ?_ ?_)
   | (with_reducible refine LeO.bind ?_ (fun _ => ?_))
   | exact ih0 _ _ _
   | exact impl_Decimal.mono _ _
   | exact LeO.none _
   | refine LeO.ite ?_ ?_
   | refine LeO.bind ?_ (fun _ => ?_)
theorem impl_ReadDecimal.mono : ∀ a0 k, LeO (impl_ReadDecimal.f k a0) (impl_ReadDecimal.f (k + 1) a0) := by
 intro a0 k; have ih0 := impl_ReadDecimal.mono_l k; unfold impl_ReadDecimal.f
 repeat' first
   | (with_reducible exact ih0 _ _ _)
   | (with_reducible exact impl_Decimal.mono _ _)
   | (with_reducible exact LeO.refl _)
   | (with_reducible exact LeO.none _)
   | (with_reducible refine LeO.ite ?_ ?_)
   | (with_reducible refine LeO.bind ?_ (fun _ => ?_))
   | exact ih0 _ _ _
   | exact impl_Decimal.mono _ _
   | exact LeO.none _
   | refine LeO.ite ?_ ?_
   | refine LeO.bind ?_ (fun _ => ?_)
set_option maxHeartbeats 8000000 in
set_option maxRecDepth 100000 in
theorem impl_ReadDecimal.calls (k : Nat) (a0 : ByteArray) (r1 : Int) (r2 : Bool) (w : World) (h : impl_ReadDecimal.f k a0 = some (r1, r2)) :
  Calls Try.prog 74 #[.string a0] w fun e w' => e = .returned (.tuple #[.int .i64 r1, .bool r2]) ∧ Below w.heap.size w w' := by
 have HB := Aside0.mk (Below.refl w.heap.size w); have H : ((impl_within.f (a0.size : Int) 1 10).bind fun t241 => (if t241 = true then (impl_ReadDecimal.l0 k a0 0 0) else (some (0, false)))) = some (r1, r2) := h; clear h; replace H := Option.bind_eq_some_iff.mp H; obtain ⟨t241, A20, H⟩ := H; try dsimp only at H
 have A2 := Aside0.mk A20; clear A20; have HC3 := Aside0.mk H; clear H; go_enter Try.func74, Try.ntmps74; go_upto_if 9 with (first | ((with_reducible refine gate_callee (f := 71) rfl ?_); refine gA_ (some 8) Try.func71 (impl_within.calls _ _ _ _ _ A2.out) ?_; rintro e w' ⟨rfl, ⟨nd, rfl⟩⟩; refine ⟨_, rfl, ?_⟩))
 (try simp only [Act.put, List.setIfInBounds_toArray, List.set_cons_zero, List.set_cons_succ]); have H := HC3.out; clear HC3; by_cases c4 : t241 = true
 ·subst c4
  rw [if_pos rfl] at H; have H' := Aside0.mk H; clear H; go_wp2; go_loopg [4, 5] k (fun kq v4 v5 w' => ∃ (x4_1 : Int) (x5_1 : Int), v4 = .int .i64 x4_1 ∧ v5 = .int .i64 x5_1 ∧ Aside0 (impl_ReadDecimal.l0 kq a0 x4_1 x5_1 = some (r1, r2)) ∧ Aside0 (kq ≤ k) ∧ Aside0 (Below w.heap.size w w'))
  case atStart => exact ⟨(0), (0), Bb_2, Bb_2, H', ⟨Nat.le_refl _⟩, ⟨hb_⟩⟩
  case round =>
   clear H'; try clear p2; try clear c4
   obtain ⟨x4_1, x5_1, rfl, rfl, HA, HK1, HB⟩ := hrel; cases gk with
   | zero => exact absurd HA.out (by simp [impl_ReadDecimal.l0])
   | succ k1 =>
    have H := HA.out; clear HA; simp only [impl_ReadDecimal.l0] at H; by_cases c5 : x5_1 < (a0.size : Int)
    ·rw [if_pos c5] at H
     have c5b0 : decide (x5_1 < (a0.size : Int)) = true := decide_eq_true c5; clear c5; (first | rw [c5b0] | (simp only [i64_w, i32_w]; rw [c5b0]) | skip); by_cases c6 : 0 ≤ x5_1
     ·rw [if_pos c6] at H
      have c6b0 : decide (0 ≤ x5_1) = true := decide_eq_true c6; clear c6; by_cases c8 : (bt a0 x5_1) < 48
      ·rw [if_pos c8] at H
       have c8b0 : decide ((bt a0 x5_1) < 48) = true := decide_eq_true c8; clear c8; simp only [Option.some.injEq, Prod.mk.injEq] at H; obtain ⟨rfl, rfl⟩ := H; have p7 : 0 ≤ (x5_1 : Int) := of_decide_eq_true Bb_1; have q7 : x5_1 < (a0.size : Int) := of_decide_eq_true Bb_1; have hx7 := bt_at a0 x5_1; replace p7 := eq_true p7; replace q7 := eq_true q7; go_wp2; go_ret2
       exact ⟨Bb_0, hb_⟩
      ·rw [if_neg c8] at H
       have c8b0 : decide ((bt a0 x5_1) < 48) = false := decide_eq_false c8; clear c8; by_cases c10 : (bt a0 x5_1) > 57
       ·rw [if_pos c10] at H
        have c10b0 : decide (57 < (bt a0 x5_1)) = true := decide_eq_true c10; clear c10; simp only [Option.some.injEq, Prod.mk.injEq] at H; obtain ⟨rfl, rfl⟩ := H; have p7 : 0 ≤ (x5_1 : Int) := of_decide_eq_true Bb_1; have q7 : x5_1 < (a0.size : Int) := of_decide_eq_true Bb_1; have hx7 := bt_at a0 x5_1; replace p7 := eq_true p7; replace q7 := eq_true q7; have p9 : 0 ≤ (x5_1 : Int) := of_decide_eq_true Bb_1; have q9 : x5_1 < (a0.size : Int) := of_decide_eq_true Bb_1; have hx9 := bt_at a0 x5_1; replace p9 := eq_true p9; replace q9 := eq_true q9; go_wp2; go_ret2
        exact ⟨Bb_0, hb_⟩
       ·rw [if_neg c10] at H
        have c10b0 : decide (57 < (bt a0 x5_1)) = false := decide_eq_false c10; clear c10; have H' := Aside0.mk H; clear H; have p7 : 0 ≤ (x5_1 : Int) := of_decide_eq_true Bb_1; have q7 : x5_1 < (a0.size : Int) := of_decide_eq_true Bb_1; have hx7 := bt_at a0 x5_1; replace p7 := eq_true p7; replace q7 := eq_true q7; have p9 : 0 ≤ (x5_1 : Int) := of_decide_eq_true Bb_1; have q9 : x5_1 < (a0.size : Int) := of_decide_eq_true Bb_1; have hx9 := bt_at a0 x5_1; replace p9 := eq_true p9; replace q9 := eq_true q9; have p11 : 0 ≤ (x5_1 : Int) := of_decide_eq_true Bb_1; have q11 : x5_1 < (a0.size : Int) := of_decide_eq_true Bb_1; have hx11 := bt_at a0 x5_1; replace p11 := eq_true p11; replace q11 := eq_true q11; go_wp2; go_roundg k1
        case measure => have := HK1.out; omega
        case rel => exact ⟨(wrap64 ((wrap64 (10 * x4_1)) + (((bt a0 x5_1) - 48) % 256))), (wrap64 (x5_1 + 1)), Bb_2, Bb_2, H', ⟨Bb_15⟩, ⟨hb_⟩⟩
     ·rw [if_neg c6] at H
      exact absurd H (by simp)
    ·rw [if_neg c5] at H
     have c5b0 : decide (x5_1 < (a0.size : Int)) = false := decide_eq_false c5; clear c5; (first | rw [c5b0] | (simp only [i64_w, i32_w]; rw [c5b0]) | skip); by_cases c12 : x4_1 > 1000000000
     ·rw [if_pos c12] at H
      have c12b0 : decide (1000000000 < x4_1) = true := decide_eq_true c12; clear c12; simp only [Option.some.injEq, Prod.mk.injEq] at H; obtain ⟨rfl, rfl⟩ := H; go_wp2; go_ret2
      exact ⟨Bb_0, hb_⟩
     ·rw [if_neg c12] at H
      have c12b0 : decide (1000000000 < x4_1) = false := decide_eq_false c12; clear c12; replace H := Option.bind_eq_some_iff.mp H; obtain ⟨t242, A130, H⟩ := H; try dsimp only at H
      have A13 := Aside0.mk A130; clear A130; have HC14 := Aside0.mk H; clear H; go_upto_if 41 with (first | (go_at_call 72; (with_reducible refine (impl_Decimal.calls k1 x4_1 t242 _ A13.out).mono ?_); rintro e w15 ⟨rfl, hb⟩; replace HB := Aside0.mk (below_step hb_ hb); (try clear hb); (try clear hb2); (try clear hk); (try clear hi)))
      (try simp only [Act.put, List.setIfInBounds_toArray, List.set_cons_zero, List.set_cons_succ]); have H := HC14.out; clear HC14; by_cases c16 : t242.toList = a0.toList
      ·rw [if_pos c16] at H
       have c16b0 : (t242.toList == a0.toList) = true := beq_iff_eq.mpr c16; have c16b1 : (t242.toList != a0.toList) = false := bne_eq_false_iff_eq.mpr c16; clear c16; (first | rw [c16b0] | (simp only [i64_w, i32_w]; rw [c16b0]) | skip); simp only [Option.some.injEq, Prod.mk.injEq] at H; obtain ⟨rfl, rfl⟩ := H; go_wp2; go_ret2
       exact ⟨Bb_0, hb_⟩
      ·rw [if_neg c16] at H
       have c16b0 : (t242.toList == a0.toList) = false := beq_eq_false_iff_ne.mpr c16; have c16b1 : (t242.toList != a0.toList) = true := bne_iff_ne.mpr c16; (first | rw [c16b0] | (simp only [i64_w, i32_w]; rw [c16b0]) | skip); simp only [Option.some.injEq, Prod.mk.injEq] at H; obtain ⟨rfl, rfl⟩ := H; go_wp2; go_ret2
       exact ⟨Bb_0, hb_⟩
 ·replace c4 := Bool.eq_false_iff.mpr c4
  subst c4; rw [if_neg (show ¬ (false = true) by decide)] at H; simp only [Option.some.injEq, Prod.mk.injEq] at H; obtain ⟨rfl, rfl⟩ := H; go_wp2; go_ret2
  exact ⟨Bb_0, hb_⟩
end Go.Proofs.Ytjmhhgnknjfnlaa.PFnLayouts
