-- functions and their walks: written by a program of this claim's
import Derived.Test.YtjmhhgnknjfnlaaProg
import Derived.Test.YtjmhhgnknjfnlaaVFnEventsTold
import Derived.Test.YtjmhhgnknjfnlaaZFnEventsToldy0
namespace Go.Proofs.Ytjmhhgnknjfnlaa.PFnEventsTold
open Go.RowKit Go.Proofs.YtjmhhgnknjfnlaaW.PrintWords Go.Proofs.YtjmhhgnknjfnlaaW.PrintLast Go.Proofs.YtjmhhgnknjfnlaaW.PrintMore
attribute [local go_sem] max2_int min2_int max_two min_two max_three min_three max_four min_four
set_option linter.unusedVariables false
set_option linter.unusedSimpArgs false
theorem Bb_0 {P : Prop} (h : P := by repeat (first | (with_reducible first | exact HK.out | apply KeepBut.set_ | apply keep_drewN | apply keep_drew | apply keep_alloc | refine keep_far ?_ GW139.out _) | exact HK.out)) : P := h
theorem Bb_1 {P : Prop} (h : P := by repeat (first | (with_reducible first | exact HI0.out | apply IsS161.alloc | apply IsS161.drewN | apply IsS161.drew | apply IsS161.set_1 | apply IsS161.set_2 | refine IsS161.far ?_ NB0_139.out _) | exact HI0.out)) : P := h
theorem Bb_2 {P : Prop} (h : P := by repeat (first | (with_reducible first | exact HB.out | apply below_alloc | apply pw_below_drewN | apply below_drew1 | refine below_set ?_ (IsS161.ge HI0.out) | refine below_set ?_ GE139.out) | exact HB.out)) : P := h
theorem Bb_3 {P : Prop} (h : P := by (with_reducible repeat (first | refine blk_drewN ?_ _ | refine blk_drew ?_ | refine blk_alloc ?_ _)); exact BK139.out) : P := h
theorem Bb_4 {P : Prop} (h : P := by first | rfl | (simp [errW_none, errW_some] <;> rfl) | (simp [*, errW_none, errW_some] <;> rfl)) : P := h
theorem Bb_5 {P : Prop} (h : P := by repeat (first | (with_reducible first | exact HB.out | apply below_alloc | apply pw_below_drewN | apply below_drew1 | refine below_set ?_ (IsS161.ge HI185.out)) | exact HB.out)) : P := h
theorem Bb_6 {P : Prop} (h : P := by first | rfl | (simp; done) | (simp [*]; done)) : P := h
theorem Bb_7 {P : Prop} (h : P := by (with_reducible repeat (first | refine blk_drewN ?_ _ | refine blk_drew ?_ | refine blk_alloc ?_ _)); refine blk_put (cs := #[.int .i64 7, .int .i64 0, .int .i64 0, .int .i64 0]) ?_ 3 _ rfl; (with_reducible repeat (first | refine blk_drewN ?_ _ | refine blk_drew ?_ | refine blk_alloc ?_ _)); refine blk_put (cs := #[.int .i64 7, .int .i64 0, .int .i64 0, .int .i64 0]) ?_ 2 _ rfl; (with_reducible repeat (first | refine blk_drewN ?_ _ | refine blk_drew ?_ | refine blk_alloc ?_ _)); refine blk_put (cs := #[.int .i64 7, .int .i64 0, .int .i64 0, .int .i64 0]) ?_ 1 _ rfl; (with_reducible repeat (first | refine blk_drewN ?_ _ | refine blk_drew ?_ | refine blk_alloc ?_ _)); refine blk_put (cs := #[.int .i64 0, .int .i64 0, .int .i64 0, .int .i64 0]) ?_ 0 _ rfl; (with_reducible repeat (first | refine blk_drewN ?_ _ | refine blk_drew ?_ | refine blk_alloc ?_ _)); exact BK139.out) : P := h
theorem Bb_8 {P : Prop} (h : P := by repeat (first | exact Drawn0.refl _ | apply Drawn0.step)) : P := h
theorem Bb_9 {P : Prop} (h : P := by repeat (first | (with_reducible first | exact HI185.out | apply IsS161.alloc | apply IsS161.drewN | apply IsS161.drew | apply IsS161.set_1 | apply IsS161.set_2) | exact HI185.out)) : P := h
theorem Bb_10 {P : Prop} (h : P := by (with_reducible repeat (first | apply Kd.R_alloc | apply Kd.R_drewN | apply Kd.R_drew)); exact HO_4.out) : P := h
theorem Bb_11 {P : Prop} (h : P := by repeat (first | (with_reducible first | exact HK.out | apply KeepBut.set_ | apply keep_drewN | apply keep_drew | apply keep_alloc) | exact HK.out)) : P := h
theorem Bb_12 {P : Prop} (h : P := by first | omega | exact Nat.le_refl _) : P := h
def spec_l29Event.j0 : Nat → Int → Int → Bool → List Int → Int → Int → Option (Int × Int × Int × Int × Int × Int)
 | 0, _, _, _, _, _, _ => none
 | k + 1, x1, x7, x48, x1000, x1001, x1002 => if x48 = true then (some (8, 0, 0, 0, x1001, x1002)) else (if x7 = 10 then (some (7, 0, 0, 0, x1001, x1002)) else (if x7 = 11 then (some (7, 0, 0, 0, x1001, x1002)) else ((spec_l01Once.f x1000 x1001 x1002 5).bind fun bt173 => (if bt173.1 = true then ((spec_l01Below.f x1000 bt173.2.1 bt173.2.2 x1).bind fun bt176 => (some (1, bt176.1, 1, 0, bt176.2.1, bt176.2.2))) else ((spec_l01Below.f x1000 bt173.2.1 bt173.2.2 x1).bind fun bt179 => (some (1, bt179.1, 0, 0, bt179.2.1, bt179.2.2)))))))
def spec_l29Event.f (k : Nat) (s0_0 : List Int) (s0_1 : Int) (s0_2 : Int) (a1 : Int) : Option (Int × Int × Int × Int × Int × Int) := (spec_l01Below.f s0_0 s0_1 s0_2 16).bind fun bt140 => (if bt140.1 = 0 then ((spec_l01Below.f s0_0 bt140.2.1 bt140.2.2 4).bind fun bt143 => (some (4, bt143.1, 0, 0, bt143.2.1, bt143.2.2))) else (if bt140.1 = 1 then ((spec_l01Below.f s0_0 bt140.2.1 bt140.2.2 4).bind fun bt146 => (some (3, bt146.1, 0, 0, bt146.2.1, bt146.2.2))) else (if bt140.1 = 2 then ((spec_l01Below.f s0_0 bt140.2.1 bt140.2.2 5).bind fun bt149 => (some (2, bt149.1, 0, 0, bt149.2.1, bt149.2.2))) else (if bt140.1 = 3 then ((spec_l01Below.f s0_0 bt140.2.1 bt140.2.2 3).bind fun bt152 => ((spec_l01Below.f s0_0 bt152.2.1 bt152.2.2 60).bind fun bt155 => ((spec_l01Below.f s0_0 bt155.2.1 bt155.2.2 255).bind fun bt158 => (some (5, bt152.1, bt155.1, wrap64 (1 + bt158.1), bt158.2.1, bt158.2.2))))) else (if bt140.1 = 4 then ((spec_l01Below.f s0_0 bt140.2.1 bt140.2.2 a1).bind fun bt161 => ((spec_l22Seq.f s0_0 bt161.2.1 bt161.2.2).bind fun bt164 => ((spec_l01Below.f s0_0 bt164.2.1 bt164.2.2 1000).bind fun bt167 => (some (6, bt161.1, bt164.1, bt167.1, bt167.2.1, bt167.2.2))))) else (if bt140.1 = 5 then ((spec_l01Below.f s0_0 bt140.2.1 bt140.2.2 2).bind fun bt170 => (some (9, bt170.1, 0, 0, bt170.2.1, bt170.2.2))) else (if bt140.1 = 6 then (spec_l29Event.j0 k a1 bt140.1 (bt140.1 == 6) s0_0 bt140.2.1 bt140.2.2) else (if bt140.1 = 7 then (spec_l29Event.j0 k a1 bt140.1 (bt140.1 == 7) s0_0 bt140.2.1 bt140.2.2) else (if bt140.1 = 8 then (spec_l29Event.j0 k a1 bt140.1 (bt140.1 == 8) s0_0 bt140.2.1 bt140.2.2) else (spec_l29Event.j0 k a1 bt140.1 (bt140.1 == 9) s0_0 bt140.2.1 bt140.2.2))))))))))
theorem spec_l29Event.mono_l : ∀ k, (∀ y0 y1 y2 y3 y4 y5, LeO (spec_l29Event.j0 k y0 y1 y2 y3 y4 y5) (spec_l29Event.j0 (k + 1) y0 y1 y2 y3 y4 y5))
 | 0 => fun _ _ _ _ _ _ r h => by simp [spec_l29Event.j0] at h
 | k + 1 => by
  have ih0 := spec_l29Event.mono_l k
  ·intro y0 y1 y2 y3 y4 y5
   unfold spec_l29Event.j0
   repeat' first
   | (with_reducible exact ih0 _ _ _ _ _ _)
   | (with_reducible exact LeO.refl _)
   | (with_reducible exact LeO.none _)
   | (with_reducible refine LeO.ite ?_ ?_)
   | (with_reducible refine LeO.bind ?_ (fun _ => ?_))
   | exact ih0 _ _ _ _ _ _
   | exact LeO.none _
   | refine LeO.ite ?_ ?_
   | refine LeO.bind ?_ (fun _ => ?_)
theorem spec_l29Event.mono : ∀ a0 a1 a2 a3 k, LeO (spec_l29Event.f k a0 a1 a2 a3) (spec_l29Event.f (k + 1) a0 a1 a2 a3) := by
 intro a0 a1 a2 a3 k; have ih0 := spec_l29Event.mono_l k; unfold spec_l29Event.f
 repeat' first
   | (with_reducible exact ih0 _ _ _ _ _ _)
   | (with_reducible exact LeO.refl _)
   | (with_reducible exact LeO.none _)
   | (with_reducible refine LeO.ite ?_ ?_)
   | (with_reducible refine LeO.bind ?_ (fun _ => ?_))
   | exact ih0 _ _ _ _ _ _
   | exact LeO.none _
   | refine LeO.ite ?_ ?_
   | refine LeO.bind ?_ (fun _ => ?_)
set_option maxHeartbeats 8000000 in
set_option maxRecDepth 100000 in
theorem spec_l29Event.calls (k : Nat) (g : Nat) (s0_0 : List Int) (s0_1 : Int) (s0_2 : Int) (a1 : Int) (r1 : Int) (r2 : Int) (r3 : Int) (r4 : Int) (r5 : Int) (r6 : Int) (w0 w : World) (hI : IsS161 w0 w g s0_0 s0_1 s0_2) (hB : Below w0.heap.size w0 w) (h : spec_l29Event.f k s0_0 s0_1 s0_2 a1 = some (r1, r2, r3, r4, r5, r6)) :
  Calls Try.prog 69 #[.pointer (some ⟨g, 0, none⟩), .int .i64 a1] w fun e w' => e = .returned (.agg #[.int .i64 r1, .int .i64 r2, .int .i64 r3, .int .i64 r4]) ∧ IsS161 w0 w' g s0_0 r5 r6 ∧ Below w0.heap.size w0 w' ∧ KeepBut w w' g none := by
 have hu29 := Try.underlying29; have HI0 := Aside0.mk hI; have HK := Aside0.mk (KeepBut.refl w g none); have HL := Aside0.mk hB.size; clear hI; have HW0 := Aside0.mk hB.size; have HB := Aside0.mk hB; clear hB; have H : ((spec_l01Below.f s0_0 s0_1 s0_2 16).bind fun bt140 => (if bt140.1 = 0 then ((spec_l01Below.f s0_0 bt140.2.1 bt140.2.2 4).bind fun bt143 => (some (4, bt143.1, 0, 0, bt143.2.1, bt143.2.2))) else (if bt140.1 = 1 then ((spec_l01Below.f s0_0 bt140.2.1 bt140.2.2 4).bind fun bt146 => (some (3, bt146.1, 0, 0, bt146.2.1, bt146.2.2))) else (if bt140.1 = 2 then ((spec_l01Below.f s0_0 bt140.2.1 bt140.2.2 5).bind fun bt149 => (some (2, bt149.1, 0, 0, bt149.2.1, bt149.2.2))) else (if bt140.1 = 3 then ((spec_l01Below.f s0_0 bt140.2.1 bt140.2.2 3).bind fun bt152 => ((spec_l01Below.f s0_0 bt152.2.1 bt152.2.2 60).bind fun bt155 => ((spec_l01Below.f s0_0 bt155.2.1 bt155.2.2 255).bind fun bt158 => (some (5, bt152.1, bt155.1, wrap64 (1 + bt158.1), bt158.2.1, bt158.2.2))))) else (if bt140.1 = 4 then ((spec_l01Below.f s0_0 bt140.2.1 bt140.2.2 a1).bind fun bt161 => ((spec_l22Seq.f s0_0 bt161.2.1 bt161.2.2).bind fun bt164 => ((spec_l01Below.f s0_0 bt164.2.1 bt164.2.2 1000).bind fun bt167 => (some (6, bt161.1, bt164.1, bt167.1, bt167.2.1, bt167.2.2))))) else (if bt140.1 = 5 then ((spec_l01Below.f s0_0 bt140.2.1 bt140.2.2 2).bind fun bt170 => (some (9, bt170.1, 0, 0, bt170.2.1, bt170.2.2))) else (if bt140.1 = 6 then (spec_l29Event.j0 k a1 bt140.1 (bt140.1 == 6) s0_0 bt140.2.1 bt140.2.2) else (if bt140.1 = 7 then (spec_l29Event.j0 k a1 bt140.1 (bt140.1 == 7) s0_0 bt140.2.1 bt140.2.2) else (if bt140.1 = 8 then (spec_l29Event.j0 k a1 bt140.1 (bt140.1 == 8) s0_0 bt140.2.1 bt140.2.2) else (spec_l29Event.j0 k a1 bt140.1 (bt140.1 == 9) s0_0 bt140.2.1 bt140.2.2))))))))))) = some (r1, r2, r3, r4, r5, r6) := h; clear h; replace H := Option.bind_eq_some_iff.mp H; obtain ⟨⟨t140, t141, t142⟩, A30, H⟩ := H; try dsimp only at H
 have A3 := Aside0.mk A30; clear A30; have HC4 := Aside0.mk H; clear H; go_enter Try.func69, Try.ntmps69; go_upto_if 8 with (first | ((with_reducible refine gate_dst (N := 4) rfl ?_); refine bx_ (N := 4) (cs := #[.int .i64 0, .int .i64 0, .int .i64 0, .int .i64 0]) (t := 29) ?_; intro gb139 hg w5 hbox hb; replace HB := Aside0.mk (below_step (by repeat (first | (with_reducible first | exact HB.out | apply below_alloc | apply pw_below_drewN | apply below_drew1 | refine below_set ?_ (IsS161.ge HI0.out)) | exact HB.out)) hb); have BK139 := Aside0.mk (hbox); have GW139 := Aside0.mk ((by rw [hg]; exact (keep_size (w := w) (g := g) (row := none) Bb_11) : w.heap.size ≤ gb139)); have GE139 := Aside0.mk ((Nat.le_trans HW0.out (by rw [hg]; exact (keep_size (w := w) (g := g) (row := none) Bb_11) : w.heap.size ≤ gb139) : w0.heap.size ≤ gb139)); replace HK := Aside0.mk (KeepBut.trans Bb_11 (KeepBut.of_below hb g none) (.inl rfl)); have NB0_139 := Aside0.mk ((by rw [hg]; exact Nat.ne_of_lt (IsS161.lt (show IsS161 w0 _ g s0_0 s0_1 s0_2 from by repeat (first | (with_reducible first | exact HI0.out | apply IsS161.alloc | apply IsS161.drewN | apply IsS161.drew | apply IsS161.set_1 | apply IsS161.set_2) | exact HI0.out))) : g ≠ gb139)); have NB139_0 := Aside0.mk ((by rw [hg]; exact Nat.ne_of_gt (IsS161.lt (show IsS161 w0 _ g s0_0 s0_1 s0_2 from by repeat (first | (with_reducible first | exact HI0.out | apply IsS161.alloc | apply IsS161.drewN | apply IsS161.drew | apply IsS161.set_1 | apply IsS161.set_2) | exact HI0.out))) : gb139 ≠ g)); replace HI0 := Aside0.mk (IsS161.below (by repeat (first | (with_reducible first | exact HI0.out | apply IsS161.alloc | apply IsS161.drewN | apply IsS161.drew | apply IsS161.set_1 | apply IsS161.set_2) | exact HI0.out)) hb); clear hb hbox hg) | ((with_reducible refine gate_callee (f := 68) rfl ?_); refine gA_ (some 7) Try.func68 (spec_l01Below.calls g _ _ _ _ _ _ _ w0 _ ?side1 ?side2 A3.out) ?_; (case side1 => repeat (first | (with_reducible first | exact HI0.out | apply IsS161.alloc | apply IsS161.drewN | apply IsS161.drew | apply IsS161.set_1 | apply IsS161.set_2 | refine IsS161.far ?_ NB0_139.out _) | exact HI0.out)); (case side2 => repeat (first | (with_reducible first | exact HB.out | apply below_alloc | apply pw_below_drewN | apply below_drew1 | refine below_set ?_ (IsS161.ge HI0.out) | refine below_set ?_ GE139.out) | exact HB.out)); rintro e w6 ⟨rfl, hi, hb, hk⟩; refine ⟨_, rfl, ?_⟩; replace BK139 := Aside0.mk (KeepBut.blk hk (g' := gb139) (o := .cells #[.int .i64 0, .int .i64 0, .int .i64 0, .int .i64 0] 29 (0, 0)) Bb_3 NB139_0.out (by simp)); replace HK := Aside0.mk (KeepBut.trans Bb_0 hk (.inl rfl)); replace HB := Aside0.mk (hb); replace HI0 := Aside0.mk (hi); (try clear hb); (try clear hb2); (try clear hk); (try clear hi)))
 (try simp only [Act.put, List.setIfInBounds_toArray, List.set_cons_zero, List.set_cons_succ]); have H := HC4.out; clear HC4; by_cases c7 : t140 = 0
 ·rw [if_pos c7] at H
  have c7b0 : (t140 == 0) = true := beq_iff_eq.mpr c7; have c7b1 : (t140 != 0) = false := bne_eq_false_iff_eq.mpr c7; clear c7; (first | rw [c7b0] | (simp only [i64_w, i32_w]; rw [c7b0]) | skip); replace H := Option.bind_eq_some_iff.mp H; obtain ⟨⟨t143, t144, t145⟩, A80, H⟩ := H; try dsimp only at H
  have A8 := Aside0.mk A80; clear A80; simp only [Option.some.injEq, Prod.mk.injEq] at H; obtain ⟨rfl, rfl, rfl, rfl, rfl, rfl⟩ := H; go_wp2_with (first | ((with_reducible refine gate_callee (f := 68) rfl ?_); refine gA_ (some 11) Try.func68 (spec_l01Below.calls g _ _ _ _ _ _ _ w0 _ ?side1 ?side2 A8.out) ?_; (case side1 => repeat (first | (with_reducible first | exact HI0.out | apply IsS161.alloc | apply IsS161.drewN | apply IsS161.drew | apply IsS161.set_1 | apply IsS161.set_2 | refine IsS161.far ?_ NB0_139.out _) | exact HI0.out)); (case side2 => repeat (first | (with_reducible first | exact HB.out | apply below_alloc | apply pw_below_drewN | apply below_drew1 | refine below_set ?_ (IsS161.ge HI0.out) | refine below_set ?_ GE139.out) | exact HB.out)); rintro e w9 ⟨rfl, hi, hb, hk⟩; refine ⟨_, rfl, ?_⟩; replace BK139 := Aside0.mk (KeepBut.blk hk (g' := gb139) (o := .cells #[.int .i64 0, .int .i64 0, .int .i64 0, .int .i64 0] 29 (0, 0)) Bb_3 NB139_0.out (by simp)); replace HK := Aside0.mk (KeepBut.trans Bb_0 hk (.inl rfl)); replace HB := Aside0.mk (hb); replace HI0 := Aside0.mk (hi); (try clear hb); (try clear hb2); (try clear hk); (try clear hi); have hnb10 := NB139_0.out; have hnc10 := NB0_139.out; have hz11 := bc4_ BK139.out)); refine bodyPost_ret (results_cell_row rfl _ _ gb139 29 #[.int .i64 4, .int .i64 t143, .int .i64 0, .int .i64 0] (0, 0) _ rfl (by (with_reducible repeat (first | refine blk_drewN ?_ _ | refine blk_drew ?_ | refine blk_alloc ?_ _)); refine blk_put (cs := #[.int .i64 4, .int .i64 t143, .int .i64 0, .int .i64 0]) ?_ 3 _ rfl; (with_reducible repeat (first | refine blk_drewN ?_ _ | refine blk_drew ?_ | refine blk_alloc ?_ _)); refine blk_put (cs := #[.int .i64 4, .int .i64 t143, .int .i64 0, .int .i64 0]) ?_ 2 _ rfl; (with_reducible repeat (first | refine blk_drewN ?_ _ | refine blk_drew ?_ | refine blk_alloc ?_ _)); refine blk_put (cs := #[.int .i64 4, .int .i64 0, .int .i64 0, .int .i64 0]) ?_ 1 _ rfl; (with_reducible repeat (first | refine blk_drewN ?_ _ | refine blk_drew ?_ | refine blk_alloc ?_ _)); refine blk_put (cs := #[.int .i64 0, .int .i64 0, .int .i64 0, .int .i64 0]) ?_ 0 _ rfl; (with_reducible repeat (first | refine blk_drewN ?_ _ | refine blk_drew ?_ | refine blk_alloc ?_ _)); exact BK139.out) Try.underlying29 rfl (by kernel_rfl)) rfl ?_; exact ⟨Bb_4, Bb_1, Bb_2, Bb_0⟩
 ·rw [if_neg c7] at H
  have c7b0 : (t140 == 0) = false := beq_eq_false_iff_ne.mpr c7; have c7b1 : (t140 != 0) = true := bne_iff_ne.mpr c7; (first | rw [c7b0] | (simp only [i64_w, i32_w]; rw [c7b0]) | skip); by_cases c12 : t140 = 1
  ·rw [if_pos c12] at H
   have c12b0 : (t140 == 1) = true := beq_iff_eq.mpr c12; have c12b1 : (t140 != 1) = false := bne_eq_false_iff_eq.mpr c12; clear c12; replace H := Option.bind_eq_some_iff.mp H; obtain ⟨⟨t146, t147, t148⟩, A130, H⟩ := H; try dsimp only at H
   have A13 := Aside0.mk A130; clear A130; simp only [Option.some.injEq, Prod.mk.injEq] at H; obtain ⟨rfl, rfl, rfl, rfl, rfl, rfl⟩ := H; go_wp2_with (first | ((with_reducible refine gate_callee (f := 68) rfl ?_); refine gA_ (some 16) Try.func68 (spec_l01Below.calls g _ _ _ _ _ _ _ w0 _ ?side1 ?side2 A13.out) ?_; (case side1 => repeat (first | (with_reducible first | exact HI0.out | apply IsS161.alloc | apply IsS161.drewN | apply IsS161.drew | apply IsS161.set_1 | apply IsS161.set_2 | refine IsS161.far ?_ NB0_139.out _) | exact HI0.out)); (case side2 => repeat (first | (with_reducible first | exact HB.out | apply below_alloc | apply pw_below_drewN | apply below_drew1 | refine below_set ?_ (IsS161.ge HI0.out) | refine below_set ?_ GE139.out) | exact HB.out)); rintro e w14 ⟨rfl, hi, hb, hk⟩; refine ⟨_, rfl, ?_⟩; replace BK139 := Aside0.mk (KeepBut.blk hk (g' := gb139) (o := .cells #[.int .i64 0, .int .i64 0, .int .i64 0, .int .i64 0] 29 (0, 0)) Bb_3 NB139_0.out (by simp)); replace HK := Aside0.mk (KeepBut.trans Bb_0 hk (.inl rfl)); replace HB := Aside0.mk (hb); replace HI0 := Aside0.mk (hi); (try clear hb); (try clear hb2); (try clear hk); (try clear hi); have hnb15 := NB139_0.out; have hnc15 := NB0_139.out; have hz16 := bc4_ BK139.out)); refine bodyPost_ret (results_cell_row rfl _ _ gb139 29 #[.int .i64 3, .int .i64 t146, .int .i64 0, .int .i64 0] (0, 0) _ rfl (by (with_reducible repeat (first | refine blk_drewN ?_ _ | refine blk_drew ?_ | refine blk_alloc ?_ _)); refine blk_put (cs := #[.int .i64 3, .int .i64 t146, .int .i64 0, .int .i64 0]) ?_ 3 _ rfl; (with_reducible repeat (first | refine blk_drewN ?_ _ | refine blk_drew ?_ | refine blk_alloc ?_ _)); refine blk_put (cs := #[.int .i64 3, .int .i64 t146, .int .i64 0, .int .i64 0]) ?_ 2 _ rfl; (with_reducible repeat (first | refine blk_drewN ?_ _ | refine blk_drew ?_ | refine blk_alloc ?_ _)); refine blk_put (cs := #[.int .i64 3, .int .i64 0, .int .i64 0, .int .i64 0]) ?_ 1 _ rfl; (with_reducible repeat (first | refine blk_drewN ?_ _ | refine blk_drew ?_ | refine blk_alloc ?_ _)); refine blk_put (cs := #[.int .i64 0, .int .i64 0, .int .i64 0, .int .i64 0]) ?_ 0 _ rfl; (with_reducible repeat (first | refine blk_drewN ?_ _ | refine blk_drew ?_ | refine blk_alloc ?_ _)); exact BK139.out) Try.underlying29 rfl (by kernel_rfl)) rfl ?_; exact ⟨Bb_4, Bb_1, Bb_2, Bb_0⟩
  ·rw [if_neg c12] at H
   have c12b0 : (t140 == 1) = false := beq_eq_false_iff_ne.mpr c12; have c12b1 : (t140 != 1) = true := bne_iff_ne.mpr c12; by_cases c17 : t140 = 2
   ·rw [if_pos c17] at H
    have c17b0 : (t140 == 2) = true := beq_iff_eq.mpr c17; have c17b1 : (t140 != 2) = false := bne_eq_false_iff_eq.mpr c17; clear c17; replace H := Option.bind_eq_some_iff.mp H; obtain ⟨⟨t149, t150, t151⟩, A180, H⟩ := H; try dsimp only at H
    have A18 := Aside0.mk A180; clear A180; simp only [Option.some.injEq, Prod.mk.injEq] at H; obtain ⟨rfl, rfl, rfl, rfl, rfl, rfl⟩ := H; go_wp2_with (first | ((with_reducible refine gate_callee (f := 68) rfl ?_); refine gA_ (some 21) Try.func68 (spec_l01Below.calls g _ _ _ _ _ _ _ w0 _ ?side1 ?side2 A18.out) ?_; (case side1 => repeat (first | (with_reducible first | exact HI0.out | apply IsS161.alloc | apply IsS161.drewN | apply IsS161.drew | apply IsS161.set_1 | apply IsS161.set_2 | refine IsS161.far ?_ NB0_139.out _) | exact HI0.out)); (case side2 => repeat (first | (with_reducible first | exact HB.out | apply below_alloc | apply pw_below_drewN | apply below_drew1 | refine below_set ?_ (IsS161.ge HI0.out) | refine below_set ?_ GE139.out) | exact HB.out)); rintro e w19 ⟨rfl, hi, hb, hk⟩; refine ⟨_, rfl, ?_⟩; replace BK139 := Aside0.mk (KeepBut.blk hk (g' := gb139) (o := .cells #[.int .i64 0, .int .i64 0, .int .i64 0, .int .i64 0] 29 (0, 0)) Bb_3 NB139_0.out (by simp)); replace HK := Aside0.mk (KeepBut.trans Bb_0 hk (.inl rfl)); replace HB := Aside0.mk (hb); replace HI0 := Aside0.mk (hi); (try clear hb); (try clear hb2); (try clear hk); (try clear hi); have hnb20 := NB139_0.out; have hnc20 := NB0_139.out; have hz21 := bc4_ BK139.out)); refine bodyPost_ret (results_cell_row rfl _ _ gb139 29 #[.int .i64 2, .int .i64 t149, .int .i64 0, .int .i64 0] (0, 0) _ rfl (by (with_reducible repeat (first | refine blk_drewN ?_ _ | refine blk_drew ?_ | refine blk_alloc ?_ _)); refine blk_put (cs := #[.int .i64 2, .int .i64 t149, .int .i64 0, .int .i64 0]) ?_ 3 _ rfl; (with_reducible repeat (first | refine blk_drewN ?_ _ | refine blk_drew ?_ | refine blk_alloc ?_ _)); refine blk_put (cs := #[.int .i64 2, .int .i64 t149, .int .i64 0, .int .i64 0]) ?_ 2 _ rfl; (with_reducible repeat (first | refine blk_drewN ?_ _ | refine blk_drew ?_ | refine blk_alloc ?_ _)); refine blk_put (cs := #[.int .i64 2, .int .i64 0, .int .i64 0, .int .i64 0]) ?_ 1 _ rfl; (with_reducible repeat (first | refine blk_drewN ?_ _ | refine blk_drew ?_ | refine blk_alloc ?_ _)); refine blk_put (cs := #[.int .i64 0, .int .i64 0, .int .i64 0, .int .i64 0]) ?_ 0 _ rfl; (with_reducible repeat (first | refine blk_drewN ?_ _ | refine blk_drew ?_ | refine blk_alloc ?_ _)); exact BK139.out) Try.underlying29 rfl (by kernel_rfl)) rfl ?_; exact ⟨Bb_4, Bb_1, Bb_2, Bb_0⟩
   ·rw [if_neg c17] at H
    have c17b0 : (t140 == 2) = false := beq_eq_false_iff_ne.mpr c17; have c17b1 : (t140 != 2) = true := bne_iff_ne.mpr c17; by_cases c22 : t140 = 3
    ·rw [if_pos c22] at H
     have c22b0 : (t140 == 3) = true := beq_iff_eq.mpr c22; have c22b1 : (t140 != 3) = false := bne_eq_false_iff_eq.mpr c22; clear c22; replace H := Option.bind_eq_some_iff.mp H; obtain ⟨⟨t152, t153, t154⟩, A230, H⟩ := H; try dsimp only at H
     have A23 := Aside0.mk A230; clear A230; replace H := Option.bind_eq_some_iff.mp H; obtain ⟨⟨t155, t156, t157⟩, A240, H⟩ := H; try dsimp only at H
     have A24 := Aside0.mk A240; clear A240; replace H := Option.bind_eq_some_iff.mp H; obtain ⟨⟨t158, t159, t160⟩, A250, H⟩ := H; try dsimp only at H
     have A25 := Aside0.mk A250; clear A250; simp only [Option.some.injEq, Prod.mk.injEq] at H; obtain ⟨rfl, rfl, rfl, rfl, rfl, rfl⟩ := H; go_wp2_with (first | ((with_reducible refine gate_callee (f := 68) rfl ?_); refine gA_ (some 26) Try.func68 (spec_l01Below.calls g _ _ _ _ _ _ _ w0 _ ?side1 ?side2 A23.out) ?_; (case side1 => repeat (first | (with_reducible first | exact HI0.out | apply IsS161.alloc | apply IsS161.drewN | apply IsS161.drew | apply IsS161.set_1 | apply IsS161.set_2 | refine IsS161.far ?_ NB0_139.out _) | exact HI0.out)); (case side2 => repeat (first | (with_reducible first | exact HB.out | apply below_alloc | apply pw_below_drewN | apply below_drew1 | refine below_set ?_ (IsS161.ge HI0.out) | refine below_set ?_ GE139.out) | exact HB.out)); rintro e w26 ⟨rfl, hi, hb, hk⟩; refine ⟨_, rfl, ?_⟩; replace BK139 := Aside0.mk (KeepBut.blk hk (g' := gb139) (o := .cells #[.int .i64 0, .int .i64 0, .int .i64 0, .int .i64 0] 29 (0, 0)) Bb_3 NB139_0.out (by simp)); replace HK := Aside0.mk (KeepBut.trans Bb_0 hk (.inl rfl)); replace HB := Aside0.mk (hb); replace HI0 := Aside0.mk (hi); (try clear hb); (try clear hb2); (try clear hk); (try clear hi)) | ((with_reducible refine gate_callee (f := 68) rfl ?_); refine gA_ (some 28) Try.func68 (spec_l01Below.calls g _ _ _ _ _ _ _ w0 _ ?side1 ?side2 A24.out) ?_; (case side1 => repeat (first | (with_reducible first | exact HI0.out | apply IsS161.alloc | apply IsS161.drewN | apply IsS161.drew | apply IsS161.set_1 | apply IsS161.set_2 | refine IsS161.far ?_ NB0_139.out _) | exact HI0.out)); (case side2 => repeat (first | (with_reducible first | exact HB.out | apply below_alloc | apply pw_below_drewN | apply below_drew1 | refine below_set ?_ (IsS161.ge HI0.out) | refine below_set ?_ GE139.out) | exact HB.out)); rintro e w27 ⟨rfl, hi, hb, hk⟩; refine ⟨_, rfl, ?_⟩; replace BK139 := Aside0.mk (KeepBut.blk hk (g' := gb139) (o := .cells #[.int .i64 0, .int .i64 0, .int .i64 0, .int .i64 0] 29 (0, 0)) Bb_3 NB139_0.out (by simp)); replace HK := Aside0.mk (KeepBut.trans Bb_0 hk (.inl rfl)); replace HB := Aside0.mk (hb); replace HI0 := Aside0.mk (hi); (try clear hb); (try clear hb2); (try clear hk); (try clear hi)) | ((with_reducible refine gate_callee (f := 68) rfl ?_); refine gA_ (some 30) Try.func68 (spec_l01Below.calls g _ _ _ _ _ _ _ w0 _ ?side1 ?side2 A25.out) ?_; (case side1 => repeat (first | (with_reducible first | exact HI0.out | apply IsS161.alloc | apply IsS161.drewN | apply IsS161.drew | apply IsS161.set_1 | apply IsS161.set_2 | refine IsS161.far ?_ NB0_139.out _) | exact HI0.out)); (case side2 => repeat (first | (with_reducible first | exact HB.out | apply below_alloc | apply pw_below_drewN | apply below_drew1 | refine below_set ?_ (IsS161.ge HI0.out) | refine below_set ?_ GE139.out) | exact HB.out)); rintro e w28 ⟨rfl, hi, hb, hk⟩; refine ⟨_, rfl, ?_⟩; replace BK139 := Aside0.mk (KeepBut.blk hk (g' := gb139) (o := .cells #[.int .i64 0, .int .i64 0, .int .i64 0, .int .i64 0] 29 (0, 0)) Bb_3 NB139_0.out (by simp)); replace HK := Aside0.mk (KeepBut.trans Bb_0 hk (.inl rfl)); replace HB := Aside0.mk (hb); replace HI0 := Aside0.mk (hi); (try clear hb); (try clear hb2); (try clear hk); (try clear hi); have hnb29 := NB139_0.out; have hnc29 := NB0_139.out; have hz30 := bc4_ BK139.out)); refine bodyPost_ret (results_cell_row rfl _ _ gb139 29 #[.int .i64 5, .int .i64 t152, .int .i64 t155, .int .i64 (wrap64 (1 + t158))] (0, 0) _ rfl (by (with_reducible repeat (first | refine blk_drewN ?_ _ | refine blk_drew ?_ | refine blk_alloc ?_ _)); refine blk_put (cs := #[.int .i64 5, .int .i64 t152, .int .i64 t155, .int .i64 0]) ?_ 3 _ rfl; (with_reducible repeat (first | refine blk_drewN ?_ _ | refine blk_drew ?_ | refine blk_alloc ?_ _)); refine blk_put (cs := #[.int .i64 5, .int .i64 t152, .int .i64 0, .int .i64 0]) ?_ 2 _ rfl; (with_reducible repeat (first | refine blk_drewN ?_ _ | refine blk_drew ?_ | refine blk_alloc ?_ _)); refine blk_put (cs := #[.int .i64 5, .int .i64 0, .int .i64 0, .int .i64 0]) ?_ 1 _ rfl; (with_reducible repeat (first | refine blk_drewN ?_ _ | refine blk_drew ?_ | refine blk_alloc ?_ _)); refine blk_put (cs := #[.int .i64 0, .int .i64 0, .int .i64 0, .int .i64 0]) ?_ 0 _ rfl; (with_reducible repeat (first | refine blk_drewN ?_ _ | refine blk_drew ?_ | refine blk_alloc ?_ _)); exact BK139.out) Try.underlying29 rfl (by kernel_rfl)) rfl ?_; exact ⟨Bb_4, Bb_1, Bb_2, Bb_0⟩
    ·rw [if_neg c22] at H
     have c22b0 : (t140 == 3) = false := beq_eq_false_iff_ne.mpr c22; have c22b1 : (t140 != 3) = true := bne_iff_ne.mpr c22; by_cases c31 : t140 = 4
     ·rw [if_pos c31] at H
      have c31b0 : (t140 == 4) = true := beq_iff_eq.mpr c31; have c31b1 : (t140 != 4) = false := bne_eq_false_iff_eq.mpr c31; clear c31; replace H := Option.bind_eq_some_iff.mp H; obtain ⟨⟨t161, t162, t163⟩, A320, H⟩ := H; try dsimp only at H
      have A32 := Aside0.mk A320; clear A320; replace H := Option.bind_eq_some_iff.mp H; obtain ⟨⟨t164, t165, t166⟩, A330, H⟩ := H; try dsimp only at H
      have A33 := Aside0.mk A330; clear A330; replace H := Option.bind_eq_some_iff.mp H; obtain ⟨⟨t167, t168, t169⟩, A340, H⟩ := H; try dsimp only at H
      have A34 := Aside0.mk A340; clear A340; simp only [Option.some.injEq, Prod.mk.injEq] at H; obtain ⟨rfl, rfl, rfl, rfl, rfl, rfl⟩ := H; go_wp2_with (first | ((with_reducible refine gate_callee (f := 68) rfl ?_); refine gA_ (some 37) Try.func68 (spec_l01Below.calls g _ _ _ _ _ _ _ w0 _ ?side1 ?side2 A32.out) ?_; (case side1 => repeat (first | (with_reducible first | exact HI0.out | apply IsS161.alloc | apply IsS161.drewN | apply IsS161.drew | apply IsS161.set_1 | apply IsS161.set_2 | refine IsS161.far ?_ NB0_139.out _) | exact HI0.out)); (case side2 => repeat (first | (with_reducible first | exact HB.out | apply below_alloc | apply pw_below_drewN | apply below_drew1 | refine below_set ?_ (IsS161.ge HI0.out) | refine below_set ?_ GE139.out) | exact HB.out)); rintro e w35 ⟨rfl, hi, hb, hk⟩; refine ⟨_, rfl, ?_⟩; replace BK139 := Aside0.mk (KeepBut.blk hk (g' := gb139) (o := .cells #[.int .i64 0, .int .i64 0, .int .i64 0, .int .i64 0] 29 (0, 0)) Bb_3 NB139_0.out (by simp)); replace HK := Aside0.mk (KeepBut.trans Bb_0 hk (.inl rfl)); replace HB := Aside0.mk (hb); replace HI0 := Aside0.mk (hi); (try clear hb); (try clear hb2); (try clear hk); (try clear hi)) | ((with_reducible refine gate_callee (f := 125) rfl ?_); refine gA_ (some 39) Try.func125 (spec_l22Seq.calls g _ _ _ _ _ _ w0 _ ?side1 ?side2 A33.out) ?_; (case side1 => repeat (first | (with_reducible first | exact HI0.out | apply IsS161.alloc | apply IsS161.drewN | apply IsS161.drew | apply IsS161.set_1 | apply IsS161.set_2 | refine IsS161.far ?_ NB0_139.out _) | exact HI0.out)); (case side2 => repeat (first | (with_reducible first | exact HB.out | apply below_alloc | apply pw_below_drewN | apply below_drew1 | refine below_set ?_ (IsS161.ge HI0.out) | refine below_set ?_ GE139.out) | exact HB.out)); rintro e w36 ⟨rfl, hi, hb, hk⟩; refine ⟨_, rfl, ?_⟩; replace BK139 := Aside0.mk (KeepBut.blk hk (g' := gb139) (o := .cells #[.int .i64 0, .int .i64 0, .int .i64 0, .int .i64 0] 29 (0, 0)) Bb_3 NB139_0.out (by simp)); replace HK := Aside0.mk (KeepBut.trans Bb_0 hk (.inl rfl)); replace HB := Aside0.mk (hb); replace HI0 := Aside0.mk (hi); (try clear hb); (try clear hb2); (try clear hk); (try clear hi)) | ((with_reducible refine gate_callee (f := 68) rfl ?_); refine gA_ (some 41) Try.func68 (spec_l01Below.calls g _ _ _ _ _ _ _ w0 _ ?side1 ?side2 A34.out) ?_; (case side1 => repeat (first | (with_reducible first | exact HI0.out | apply IsS161.alloc | apply IsS161.drewN | apply IsS161.drew | apply IsS161.set_1 | apply IsS161.set_2 | refine IsS161.far ?_ NB0_139.out _) | exact HI0.out)); (case side2 => repeat (first | (with_reducible first | exact HB.out | apply below_alloc | apply pw_below_drewN | apply below_drew1 | refine below_set ?_ (IsS161.ge HI0.out) | refine below_set ?_ GE139.out) | exact HB.out)); rintro e w37 ⟨rfl, hi, hb, hk⟩; refine ⟨_, rfl, ?_⟩; replace BK139 := Aside0.mk (KeepBut.blk hk (g' := gb139) (o := .cells #[.int .i64 0, .int .i64 0, .int .i64 0, .int .i64 0] 29 (0, 0)) Bb_3 NB139_0.out (by simp)); replace HK := Aside0.mk (KeepBut.trans Bb_0 hk (.inl rfl)); replace HB := Aside0.mk (hb); replace HI0 := Aside0.mk (hi); (try clear hb); (try clear hb2); (try clear hk); (try clear hi); have hnb38 := NB139_0.out; have hnc38 := NB0_139.out; have hz39 := bc4_ BK139.out)); refine bodyPost_ret (results_cell_row rfl _ _ gb139 29 #[.int .i64 6, .int .i64 t161, .int .i64 t164, .int .i64 t167] (0, 0) _ rfl (by (with_reducible repeat (first | refine blk_drewN ?_ _ | refine blk_drew ?_ | refine blk_alloc ?_ _)); refine blk_put (cs := #[.int .i64 6, .int .i64 t161, .int .i64 t164, .int .i64 0]) ?_ 3 _ rfl; (with_reducible repeat (first | refine blk_drewN ?_ _ | refine blk_drew ?_ | refine blk_alloc ?_ _)); refine blk_put (cs := #[.int .i64 6, .int .i64 t161, .int .i64 0, .int .i64 0]) ?_ 2 _ rfl; (with_reducible repeat (first | refine blk_drewN ?_ _ | refine blk_drew ?_ | refine blk_alloc ?_ _)); refine blk_put (cs := #[.int .i64 6, .int .i64 0, .int .i64 0, .int .i64 0]) ?_ 1 _ rfl; (with_reducible repeat (first | refine blk_drewN ?_ _ | refine blk_drew ?_ | refine blk_alloc ?_ _)); refine blk_put (cs := #[.int .i64 0, .int .i64 0, .int .i64 0, .int .i64 0]) ?_ 0 _ rfl; (with_reducible repeat (first | refine blk_drewN ?_ _ | refine blk_drew ?_ | refine blk_alloc ?_ _)); exact BK139.out) Try.underlying29 rfl (by kernel_rfl)) rfl ?_; exact ⟨Bb_4, Bb_1, Bb_2, Bb_0⟩
     ·rw [if_neg c31] at H
      have c31b0 : (t140 == 4) = false := beq_eq_false_iff_ne.mpr c31; have c31b1 : (t140 != 4) = true := bne_iff_ne.mpr c31; by_cases c40 : t140 = 5
      ·rw [if_pos c40] at H
       have c40b0 : (t140 == 5) = true := beq_iff_eq.mpr c40; have c40b1 : (t140 != 5) = false := bne_eq_false_iff_eq.mpr c40; clear c40; replace H := Option.bind_eq_some_iff.mp H; obtain ⟨⟨t170, t171, t172⟩, A410, H⟩ := H; try dsimp only at H
       have A41 := Aside0.mk A410; clear A410; simp only [Option.some.injEq, Prod.mk.injEq] at H; obtain ⟨rfl, rfl, rfl, rfl, rfl, rfl⟩ := H; go_wp2_with (first | ((with_reducible refine gate_callee (f := 68) rfl ?_); refine gA_ (some 46) Try.func68 (spec_l01Below.calls g _ _ _ _ _ _ _ w0 _ ?side1 ?side2 A41.out) ?_; (case side1 => repeat (first | (with_reducible first | exact HI0.out | apply IsS161.alloc | apply IsS161.drewN | apply IsS161.drew | apply IsS161.set_1 | apply IsS161.set_2 | refine IsS161.far ?_ NB0_139.out _) | exact HI0.out)); (case side2 => repeat (first | (with_reducible first | exact HB.out | apply below_alloc | apply pw_below_drewN | apply below_drew1 | refine below_set ?_ (IsS161.ge HI0.out) | refine below_set ?_ GE139.out) | exact HB.out)); rintro e w42 ⟨rfl, hi, hb, hk⟩; refine ⟨_, rfl, ?_⟩; replace BK139 := Aside0.mk (KeepBut.blk hk (g' := gb139) (o := .cells #[.int .i64 0, .int .i64 0, .int .i64 0, .int .i64 0] 29 (0, 0)) Bb_3 NB139_0.out (by simp)); replace HK := Aside0.mk (KeepBut.trans Bb_0 hk (.inl rfl)); replace HB := Aside0.mk (hb); replace HI0 := Aside0.mk (hi); (try clear hb); (try clear hb2); (try clear hk); (try clear hi); have hnb43 := NB139_0.out; have hnc43 := NB0_139.out; have hz44 := bc4_ BK139.out)); refine bodyPost_ret (results_cell_row rfl _ _ gb139 29 #[.int .i64 9, .int .i64 t170, .int .i64 0, .int .i64 0] (0, 0) _ rfl (by (with_reducible repeat (first | refine blk_drewN ?_ _ | refine blk_drew ?_ | refine blk_alloc ?_ _)); refine blk_put (cs := #[.int .i64 9, .int .i64 t170, .int .i64 0, .int .i64 0]) ?_ 3 _ rfl; (with_reducible repeat (first | refine blk_drewN ?_ _ | refine blk_drew ?_ | refine blk_alloc ?_ _)); refine blk_put (cs := #[.int .i64 9, .int .i64 t170, .int .i64 0, .int .i64 0]) ?_ 2 _ rfl; (with_reducible repeat (first | refine blk_drewN ?_ _ | refine blk_drew ?_ | refine blk_alloc ?_ _)); refine blk_put (cs := #[.int .i64 9, .int .i64 0, .int .i64 0, .int .i64 0]) ?_ 1 _ rfl; (with_reducible repeat (first | refine blk_drewN ?_ _ | refine blk_drew ?_ | refine blk_alloc ?_ _)); refine blk_put (cs := #[.int .i64 0, .int .i64 0, .int .i64 0, .int .i64 0]) ?_ 0 _ rfl; (with_reducible repeat (first | refine blk_drewN ?_ _ | refine blk_drew ?_ | refine blk_alloc ?_ _)); exact BK139.out) Try.underlying29 rfl (by kernel_rfl)) rfl ?_; exact ⟨Bb_4, Bb_1, Bb_2, Bb_0⟩
      ·rw [if_neg c40] at H
       have c40b0 : (t140 == 5) = false := beq_eq_false_iff_ne.mpr c40; have c40b1 : (t140 != 5) = true := bne_iff_ne.mpr c40; have HC45 := Aside0.mk H; clear H; go_upto_if 48 with (fail)
       go_cut [48] (fun v48 wc => ∃ (kq : Nat) (x48_44 : Bool), v48 = .bool x48_44 ∧ Aside0 (spec_l29Event.j0 kq a1 t140 x48_44 s0_0 t141 t142 = some (r1, r2, r3, r4, r5, r6)) ∧ Aside0 (kq ≤ k) ∧ Aside0 (wc.heap[gb139]? = some (.cells #[.int .i64 0, .int .i64 0, .int .i64 0, .int .i64 0] 29 (0, 0))) ∧ Aside0 (IsS161 w0 wc g s0_0 t141 t142) ∧ Aside0 (KeepBut w wc g none) ∧ Aside0 (Below w0.heap.size w0 wc))
       case first =>
        have H := HC45.out; clear HC45; by_cases c46 : t140 = 6
        ·rw [if_pos c46] at H
         have c46b0 : (t140 == 6) = true := beq_iff_eq.mpr c46; have c46b1 : (t140 != 6) = false := bne_eq_false_iff_eq.mpr c46; clear c46; (first | rw [c46b0] | (simp only [i64_w, i32_w]; rw [c46b0]) | skip); have H' := Aside0.mk H; clear H; go_wp2; go_meet
         case rel => exact ⟨_, ((t140 == 6)), Bb_6, H', ⟨Bb_12⟩, ⟨Bb_3⟩, ⟨Bb_1⟩, ⟨Bb_0⟩, ⟨Bb_2⟩⟩
        ·rw [if_neg c46] at H
         have c46b0 : (t140 == 6) = false := beq_eq_false_iff_ne.mpr c46; have c46b1 : (t140 != 6) = true := bne_iff_ne.mpr c46; (first | rw [c46b0] | (simp only [i64_w, i32_w]; rw [c46b0]) | skip); by_cases c47 : t140 = 7
         ·rw [if_pos c47] at H
          have c47b0 : (t140 == 7) = true := beq_iff_eq.mpr c47; have c47b1 : (t140 != 7) = false := bne_eq_false_iff_eq.mpr c47; clear c47; have H' := Aside0.mk H; clear H; go_wp2; go_meet
          case rel => exact ⟨_, ((t140 == 7)), Bb_6, H', ⟨Bb_12⟩, ⟨Bb_3⟩, ⟨Bb_1⟩, ⟨Bb_0⟩, ⟨Bb_2⟩⟩
         ·rw [if_neg c47] at H
          have c47b0 : (t140 == 7) = false := beq_eq_false_iff_ne.mpr c47; have c47b1 : (t140 != 7) = true := bne_iff_ne.mpr c47; by_cases c48 : t140 = 8
          ·rw [if_pos c48] at H
           have c48b0 : (t140 == 8) = true := beq_iff_eq.mpr c48; have c48b1 : (t140 != 8) = false := bne_eq_false_iff_eq.mpr c48; clear c48; have H' := Aside0.mk H; clear H; go_wp2; go_meet
           case rel => exact ⟨_, ((t140 == 8)), Bb_6, H', ⟨Bb_12⟩, ⟨Bb_3⟩, ⟨Bb_1⟩, ⟨Bb_0⟩, ⟨Bb_2⟩⟩
          ·rw [if_neg c48] at H
           have c48b0 : (t140 == 8) = false := beq_eq_false_iff_ne.mpr c48; have c48b1 : (t140 != 8) = true := bne_iff_ne.mpr c48; have H' := Aside0.mk H; clear H; go_wp2; go_meet
           case rel => exact ⟨_, ((t140 == 9)), Bb_6, H', ⟨Bb_12⟩, ⟨Bb_3⟩, ⟨Bb_1⟩, ⟨Bb_0⟩, ⟨Bb_2⟩⟩
       case rest =>
        clear HC45; try clear c1; try clear c2; try clear p2; try clear c3; try clear c4; try clear c6; try clear p6; try clear c7; try clear c7b0; try clear c7b1; try clear c10; try clear c12; try clear c12b0; try clear c12b1; try clear c15; try clear c17; try clear c17b0; try clear c17b1; try clear c20; try clear c22; try clear c22b0; try clear c22b1; try clear c29; try clear c31; try clear c31b0; try clear c31b1; try clear c38; try clear c40; try clear c40b0; try clear c40b1; try clear c43; try clear c46; try clear c46b0; try clear c46b1; try clear c47; try clear c47b0; try clear c47b1; try clear c48; try clear c48b0; try clear c48b1; try clear hz11; try clear hz16; try clear hz21; try clear hz30; try clear hz39; try clear hz44
        obtain ⟨kq, x48_44, rfl, HA, HJ44, BK139, HI0, HK, HB⟩ := hcut; cases kq with
        | zero => exact absurd HA.out (by simp [spec_l29Event.j0])
        | succ kj44 =>
         have H := HA.out; clear HA; simp only [spec_l29Event.j0] at H; by_cases c49 : x48_44 = true
         ·subst c49
          rw [if_pos rfl] at H; simp only [Option.some.injEq, Prod.mk.injEq] at H; obtain ⟨rfl, rfl, rfl, rfl, rfl, rfl⟩ := H; have hnb50 := NB139_0.out; have hnc50 := NB0_139.out; have hz51 := bc4_ BK139.out; go_wp2; refine bodyPost_ret (results_cell_row rfl _ _ gb139 29 #[.int .i64 8, .int .i64 0, .int .i64 0, .int .i64 0] (0, 0) _ rfl (by (with_reducible repeat (first | refine blk_drewN ?_ _ | refine blk_drew ?_ | refine blk_alloc ?_ _)); refine blk_put (cs := #[.int .i64 8, .int .i64 0, .int .i64 0, .int .i64 0]) ?_ 3 _ rfl; (with_reducible repeat (first | refine blk_drewN ?_ _ | refine blk_drew ?_ | refine blk_alloc ?_ _)); refine blk_put (cs := #[.int .i64 8, .int .i64 0, .int .i64 0, .int .i64 0]) ?_ 2 _ rfl; (with_reducible repeat (first | refine blk_drewN ?_ _ | refine blk_drew ?_ | refine blk_alloc ?_ _)); refine blk_put (cs := #[.int .i64 8, .int .i64 0, .int .i64 0, .int .i64 0]) ?_ 1 _ rfl; (with_reducible repeat (first | refine blk_drewN ?_ _ | refine blk_drew ?_ | refine blk_alloc ?_ _)); refine blk_put (cs := #[.int .i64 0, .int .i64 0, .int .i64 0, .int .i64 0]) ?_ 0 _ rfl; (with_reducible repeat (first | refine blk_drewN ?_ _ | refine blk_drew ?_ | refine blk_alloc ?_ _)); exact BK139.out) Try.underlying29 rfl (by kernel_rfl)) rfl ?_; exact ⟨Bb_4, Bb_1, Bb_2, Bb_0⟩
         ·replace c49 := Bool.eq_false_iff.mpr c49
          subst c49; rw [if_neg (show ¬ (false = true) by decide)] at H; by_cases c52 : t140 = 10
          ·rw [if_pos c52] at H
           have c52b0 : (t140 == 10) = true := beq_iff_eq.mpr c52; have c52b1 : (t140 != 10) = false := bne_eq_false_iff_eq.mpr c52; clear c52; simp only [Option.some.injEq, Prod.mk.injEq] at H; obtain ⟨rfl, rfl, rfl, rfl, rfl, rfl⟩ := H; have hnb53 := NB139_0.out; have hnc53 := NB0_139.out; have hz54 := bc4_ BK139.out; go_wp2; refine bodyPost_ret (results_cell_row rfl _ _ gb139 29 #[.int .i64 7, .int .i64 0, .int .i64 0, .int .i64 0] (0, 0) _ rfl Bb_7 Try.underlying29 rfl (by kernel_rfl)) rfl ?_; exact ⟨Bb_4, Bb_1, Bb_2, Bb_0⟩
          ·rw [if_neg c52] at H
           have c52b0 : (t140 == 10) = false := beq_eq_false_iff_ne.mpr c52; have c52b1 : (t140 != 10) = true := bne_iff_ne.mpr c52; by_cases c55 : t140 = 11
           ·rw [if_pos c55] at H
            have c55b0 : (t140 == 11) = true := beq_iff_eq.mpr c55; have c55b1 : (t140 != 11) = false := bne_eq_false_iff_eq.mpr c55; clear c55; simp only [Option.some.injEq, Prod.mk.injEq] at H; obtain ⟨rfl, rfl, rfl, rfl, rfl, rfl⟩ := H; have hnb56 := NB139_0.out; have hnc56 := NB0_139.out; have hz57 := bc4_ BK139.out; go_wp2; refine bodyPost_ret (results_cell_row rfl _ _ gb139 29 #[.int .i64 7, .int .i64 0, .int .i64 0, .int .i64 0] (0, 0) _ rfl Bb_7 Try.underlying29 rfl (by kernel_rfl)) rfl ?_; exact ⟨Bb_4, Bb_1, Bb_2, Bb_0⟩
           ·rw [if_neg c55] at H
            have c55b0 : (t140 == 11) = false := beq_eq_false_iff_ne.mpr c55; have c55b1 : (t140 != 11) = true := bne_iff_ne.mpr c55; replace H := Option.bind_eq_some_iff.mp H; obtain ⟨⟨t173, t174, t175⟩, A580, H⟩ := H; try dsimp only at H
            have A58 := Aside0.mk A580; clear A580; have HC59 := Aside0.mk H; clear H; go_upto_if 59 with (first | ((with_reducible refine gate_callee (f := 126) rfl ?_); refine gA_ (some 59) Try.func126 (spec_l01Once.calls g _ _ _ _ _ _ _ w0 _ ?side1 ?side2 A58.out) ?_; (case side1 => repeat (first | (with_reducible first | exact HI0.out | apply IsS161.alloc | apply IsS161.drewN | apply IsS161.drew | apply IsS161.set_1 | apply IsS161.set_2 | refine IsS161.far ?_ NB0_139.out _) | exact HI0.out)); (case side2 => repeat (first | (with_reducible first | exact HB.out | apply below_alloc | apply pw_below_drewN | apply below_drew1 | refine below_set ?_ (IsS161.ge HI0.out) | refine below_set ?_ GE139.out) | exact HB.out)); rintro e w60 ⟨rfl, hi, hb, hk⟩; refine ⟨_, rfl, ?_⟩; replace BK139 := Aside0.mk (KeepBut.blk hk (g' := gb139) (o := .cells #[.int .i64 0, .int .i64 0, .int .i64 0, .int .i64 0] 29 (0, 0)) Bb_3 NB139_0.out (by simp)); replace HK := Aside0.mk (KeepBut.trans Bb_0 hk (.inl rfl)); replace HB := Aside0.mk (hb); replace HI0 := Aside0.mk (hi); (try clear hb); (try clear hb2); (try clear hk); (try clear hi)))
            (try simp only [Act.put, List.setIfInBounds_toArray, List.set_cons_zero, List.set_cons_succ]); have H := HC59.out; clear HC59; by_cases c61 : t173 = true
            ·subst c61
             rw [if_pos rfl] at H; replace H := Option.bind_eq_some_iff.mp H; obtain ⟨⟨t176, t177, t178⟩, A620, H⟩ := H; try dsimp only at H
             have A62 := Aside0.mk A620; clear A620; simp only [Option.some.injEq, Prod.mk.injEq] at H; obtain ⟨rfl, rfl, rfl, rfl, rfl, rfl⟩ := H; go_wp2_with (first | ((with_reducible refine gate_callee (f := 68) rfl ?_); refine gA_ (some 62) Try.func68 (spec_l01Below.calls g _ _ _ _ _ _ _ w0 _ ?side1 ?side2 A62.out) ?_; (case side1 => repeat (first | (with_reducible first | exact HI0.out | apply IsS161.alloc | apply IsS161.drewN | apply IsS161.drew | apply IsS161.set_1 | apply IsS161.set_2 | refine IsS161.far ?_ NB0_139.out _) | exact HI0.out)); (case side2 => repeat (first | (with_reducible first | exact HB.out | apply below_alloc | apply pw_below_drewN | apply below_drew1 | refine below_set ?_ (IsS161.ge HI0.out) | refine below_set ?_ GE139.out) | exact HB.out)); rintro e w63 ⟨rfl, hi, hb, hk⟩; refine ⟨_, rfl, ?_⟩; replace BK139 := Aside0.mk (KeepBut.blk hk (g' := gb139) (o := .cells #[.int .i64 0, .int .i64 0, .int .i64 0, .int .i64 0] 29 (0, 0)) Bb_3 NB139_0.out (by simp)); replace HK := Aside0.mk (KeepBut.trans Bb_0 hk (.inl rfl)); replace HB := Aside0.mk (hb); replace HI0 := Aside0.mk (hi); (try clear hb); (try clear hb2); (try clear hk); (try clear hi); have hnb64 := NB139_0.out; have hnc64 := NB0_139.out; have hz65 := bc4_ BK139.out)); refine bodyPost_ret (results_cell_row rfl _ _ gb139 29 #[.int .i64 1, .int .i64 t176, .int .i64 1, .int .i64 0] (0, 0) _ rfl (by (with_reducible repeat (first | refine blk_drewN ?_ _ | refine blk_drew ?_ | refine blk_alloc ?_ _)); refine blk_put (cs := #[.int .i64 1, .int .i64 t176, .int .i64 1, .int .i64 0]) ?_ 3 _ rfl; (with_reducible repeat (first | refine blk_drewN ?_ _ | refine blk_drew ?_ | refine blk_alloc ?_ _)); refine blk_put (cs := #[.int .i64 1, .int .i64 t176, .int .i64 0, .int .i64 0]) ?_ 2 _ rfl; (with_reducible repeat (first | refine blk_drewN ?_ _ | refine blk_drew ?_ | refine blk_alloc ?_ _)); refine blk_put (cs := #[.int .i64 1, .int .i64 0, .int .i64 0, .int .i64 0]) ?_ 1 _ rfl; (with_reducible repeat (first | refine blk_drewN ?_ _ | refine blk_drew ?_ | refine blk_alloc ?_ _)); refine blk_put (cs := #[.int .i64 0, .int .i64 0, .int .i64 0, .int .i64 0]) ?_ 0 _ rfl; (with_reducible repeat (first | refine blk_drewN ?_ _ | refine blk_drew ?_ | refine blk_alloc ?_ _)); exact BK139.out) Try.underlying29 rfl (by kernel_rfl)) rfl ?_; exact ⟨Bb_4, Bb_1, Bb_2, Bb_0⟩
            ·replace c61 := Bool.eq_false_iff.mpr c61
             subst c61; rw [if_neg (show ¬ (false = true) by decide)] at H; replace H := Option.bind_eq_some_iff.mp H; obtain ⟨⟨t179, t180, t181⟩, A660, H⟩ := H; try dsimp only at H
             have A66 := Aside0.mk A660; clear A660; simp only [Option.some.injEq, Prod.mk.injEq] at H; obtain ⟨rfl, rfl, rfl, rfl, rfl, rfl⟩ := H; go_wp2_with (first | ((with_reducible refine gate_callee (f := 68) rfl ?_); refine gA_ (some 62) Try.func68 (spec_l01Below.calls g _ _ _ _ _ _ _ w0 _ ?side1 ?side2 A66.out) ?_; (case side1 => repeat (first | (with_reducible first | exact HI0.out | apply IsS161.alloc | apply IsS161.drewN | apply IsS161.drew | apply IsS161.set_1 | apply IsS161.set_2 | refine IsS161.far ?_ NB0_139.out _) | exact HI0.out)); (case side2 => repeat (first | (with_reducible first | exact HB.out | apply below_alloc | apply pw_below_drewN | apply below_drew1 | refine below_set ?_ (IsS161.ge HI0.out) | refine below_set ?_ GE139.out) | exact HB.out)); rintro e w67 ⟨rfl, hi, hb, hk⟩; refine ⟨_, rfl, ?_⟩; replace BK139 := Aside0.mk (KeepBut.blk hk (g' := gb139) (o := .cells #[.int .i64 0, .int .i64 0, .int .i64 0, .int .i64 0] 29 (0, 0)) Bb_3 NB139_0.out (by simp)); replace HK := Aside0.mk (KeepBut.trans Bb_0 hk (.inl rfl)); replace HB := Aside0.mk (hb); replace HI0 := Aside0.mk (hi); (try clear hb); (try clear hb2); (try clear hk); (try clear hi); have hnb68 := NB139_0.out; have hnc68 := NB0_139.out; have hz69 := bc4_ BK139.out)); refine bodyPost_ret (results_cell_row rfl _ _ gb139 29 #[.int .i64 1, .int .i64 t179, .int .i64 0, .int .i64 0] (0, 0) _ rfl (by (with_reducible repeat (first | refine blk_drewN ?_ _ | refine blk_drew ?_ | refine blk_alloc ?_ _)); refine blk_put (cs := #[.int .i64 1, .int .i64 t179, .int .i64 0, .int .i64 0]) ?_ 3 _ rfl; (with_reducible repeat (first | refine blk_drewN ?_ _ | refine blk_drew ?_ | refine blk_alloc ?_ _)); refine blk_put (cs := #[.int .i64 1, .int .i64 t179, .int .i64 0, .int .i64 0]) ?_ 2 _ rfl; (with_reducible repeat (first | refine blk_drewN ?_ _ | refine blk_drew ?_ | refine blk_alloc ?_ _)); refine blk_put (cs := #[.int .i64 1, .int .i64 0, .int .i64 0, .int .i64 0]) ?_ 1 _ rfl; (with_reducible repeat (first | refine blk_drewN ?_ _ | refine blk_drew ?_ | refine blk_alloc ?_ _)); refine blk_put (cs := #[.int .i64 0, .int .i64 0, .int .i64 0, .int .i64 0]) ?_ 0 _ rfl; (with_reducible repeat (first | refine blk_drewN ?_ _ | refine blk_drew ?_ | refine blk_alloc ?_ _)); exact BK139.out) Try.underlying29 rfl (by kernel_rfl)) rfl ?_; exact ⟨Bb_4, Bb_1, Bb_2, Bb_0⟩
end Go.Proofs.Ytjmhhgnknjfnlaa.PFnEventsTold
namespace Go.Proofs.Ytjmhhgnknjfnlaa.PFnEventsTold
open Go.RowKit Go.Proofs.YtjmhhgnknjfnlaaW.PrintWords Go.Proofs.YtjmhhgnknjfnlaaW.PrintLast Go.Proofs.YtjmhhgnknjfnlaaW.PrintMore
attribute [local go_sem] max2_int min2_int max_two min_two max_three min_three max_four min_four
set_option linter.unusedVariables false
set_option linter.unusedSimpArgs false
def spec_DrawEvents.l0 : Nat → List (S29) → Int → List Int → Int → Int → Option ((List (S29)))
 | 0, _, _, _, _, _ => none
 | k + 1, x4, x5, x186000, x186001, x186002 => (spec_l01Below.f x186000 x186001 x186002 9).bind fun bt189 => (if x5 < (wrap64 (1 + bt189.1)) then ((spec_l29Event.f k x186000 bt189.2.1 bt189.2.2 3).bind fun bt192 => (if x4.length < 4398046511104 then (spec_DrawEvents.l0 k (x4 ++ [(⟨bt192.1, bt192.2.1, bt192.2.2.1, bt192.2.2.2.1⟩ : S29)]) (wrap64 (x5 + 1)) x186000 bt192.2.2.2.2.1 bt192.2.2.2.2.2) else (none))) else (some x4))
def spec_DrawEvents.f (k : Nat) (l0 : List Int) : Option ((List (S29))) := (spec_l01New.f k l0).bind fun bt182 => (spec_DrawEvents.l0 k (([] : List (S29))) 0 bt182.1 bt182.2.1 bt182.2.2)
theorem spec_DrawEvents.mono_l : ∀ k, (∀ y0 y1 y2 y3 y4, LeO (spec_DrawEvents.l0 k y0 y1 y2 y3 y4) (spec_DrawEvents.l0 (k + 1) y0 y1 y2 y3 y4))
 | 0 => fun _ _ _ _ _ r h => by simp [spec_DrawEvents.l0] at h
 | k + 1 => by
  have ih0 := spec_DrawEvents.mono_l k
  ·intro y0 y1 y2 y3 y4
   unfold spec_DrawEvents.l0
   repeat' first
   | (with_reducible exact ih0 _ _ _ _ _)
   | (with_reducible exact spec_l01New.mono _ _)
   | (with_reducible exact spec_l29Event.mono _ _ _ _ _)
   | (with_reducible exact LeO.refl _)
   | (with_reducible exact LeO.none _)
   | (with_reducible refine LeO.ite ?_ ?_)
   | (with_reducible refine LeO.bind ?_ (fun _ => ?_))
   | exact ih0 _ _ _ _ _
   | exact spec_l01New.mono _ _
   | exact spec_l29Event.mono _ _ _ _ _
   | exact LeO.none _
   | refine LeO.ite ?_ ?_
   | refine LeO.bind ?_ (fun _ => ?_)
theorem spec_DrawEvents.mono : ∀ a0 k, LeO (spec_DrawEvents.f k a0) (spec_DrawEvents.f (k + 1) a0) := by
 intro a0 k; have ih0 := spec_DrawEvents.mono_l k; unfold spec_DrawEvents.f
 repeat' first
   | (with_reducible exact ih0 _ _ _ _ _)
   | (with_reducible exact spec_l01New.mono _ _)
   | (with_reducible exact spec_l29Event.mono _ _ _ _ _)
   | (with_reducible exact LeO.refl _)
   | (with_reducible exact LeO.none _)
   | (with_reducible refine LeO.ite ?_ ?_)
   | (with_reducible refine LeO.bind ?_ (fun _ => ?_))
   | exact ih0 _ _ _ _ _
   | exact spec_l01New.mono _ _
   | exact spec_l29Event.mono _ _ _ _ _
   | exact LeO.none _
   | refine LeO.ite ?_ ?_
   | refine LeO.bind ?_ (fun _ => ?_)
set_option maxHeartbeats 8000000 in
set_option maxRecDepth 100000 in
theorem spec_DrawEvents.calls (k : Nat) (A0 : Option Addr) (c0 : Nat) (l0 : List Int) (r : List (S29)) (w : World) (hr0 : Kd.C (Kd.int .u8) w A0 l0.length l0) (hc0 : l0.length ≤ c0) (h : spec_DrawEvents.f k l0 = some r) :
  Calls Try.prog 15 #[.slice A0 l0.length c0] w fun e w' => ∃ v0_ : Value, e = .returned (v0_) ∧ Kd.R k29 29 w' w.heap.size (fun _ => True) v0_ r ∧ Below w.heap.size w w' := by
 have HR0 := Aside0.mk hr0; have HC0 := Aside0.mk hc0; clear hr0 hc0; have HB := Aside0.mk (Below.refl w.heap.size w); have H : ((spec_l01New.f k l0).bind fun bt182 => (spec_DrawEvents.l0 k (([] : List (S29))) 0 bt182.1 bt182.2.1 bt182.2.2)) = some r := h; clear h; replace H := Option.bind_eq_some_iff.mp H; obtain ⟨⟨t182, t183, t184⟩, A20, H⟩ := H; try dsimp only at H
 have A2 := Aside0.mk A20; clear A20; obtain ⟨y186, hy186⟩ : ∃ y_ : List (S29), y_ = (([] : List (S29))) := ⟨_, rfl⟩; replace H : (spec_DrawEvents.l0 k y186 0 t182 t183 t184) = some r := by first | (rw [hy186]; with_reducible exact H) | (have H2_ := (Option.bind_some _ _).symm.trans H; rw [hy186]; with_reducible exact H2_) | (have H2_ := (Option.bind_some _ _).symm.trans H; with_reducible exact H2_) | with_reducible exact H | (rw [hy186]; exact H) | exact H
 have Ny186 := Aside0.mk hy186; clear hy186; have H' := Aside0.mk H; clear H; go_enter Try.func15, Try.ntmps15; go_wp2_with (first | ((with_reducible refine gate_callee (f := 67) rfl ?_); refine gA_ (some 7) Try.func67 (spec_l01New.calls _ _ _ _ _ _ _ w _ ?side1 ?side2 ?side3 A2.out) ?_; (case side1 => repeat (first | (with_reducible first | exact HB.out | apply below_alloc | apply pw_below_drewN | apply below_drew1) | exact HB.out)); (case side2 => exact HR0.out); (case side3 => exact HC0.out); rintro e w3 ⟨g185, rfl, hi, hb, hb2⟩; refine ⟨_, rfl, ?_⟩; replace HB := Aside0.mk (hb); have HI185 := Aside0.mk (hi); (try clear hb); (try clear hb2); (try clear hk); (try clear hi)) | ((with_reducible refine gate_dst (N := 8) rfl ?_); refine Kd.R_lit k29 _ 29 ?hg (N := 8) ?hd (xs := ([] : List (S29))) (inner := []) (ok := fun _ => True) (okp := fun _ => True) ?hr ?hp (fun _ hk => hk) trivial (Below.refl _ _) (Nat.le_refl _) (by simp) ?_; (case hd => rfl); (case hg => rfl); (case hr => first | (go_simp; done) | (go_simp; rfl)); (case hp => exact (Reps.none _ _)); intro v187 w4 ho5 hb hg_ hnew_; clear hg_ hnew_; (first | rw [← Ny186.out] at ho5 | (simp only [Int.reduceToNat] at ho5; rw [← Ny186.out] at ho5)); have HO188 := Aside0.mk (Kd.R_lower ho5 (below_size Bb_5)); replace HB := Aside0.mk (below_step Bb_5 hb); replace HI185 := Aside0.mk (IsS161.below Bb_9 hb); clear hb ho5)); go_loopg [4, 5] k (fun kq v4 v5 w' => ∃ (x4_1 : List (S29)) (x5_1 : Int) (x186001_1 : Int) (x186002_1 : Int), v5 = .int .i64 x5_1 ∧ Aside0 (spec_DrawEvents.l0 kq x4_1 x5_1 t182 x186001_1 x186002_1 = some r) ∧ Aside0 (kq ≤ k) ∧ Aside0 (Kd.R k29 29 w' w.heap.size (fun _ => True) v4 x4_1) ∧ Aside0 (IsS161 w w' g185 t182 x186001_1 x186002_1) ∧ Aside0 (Below w.heap.size w w'))
 case atStart => exact ⟨(y186), (0), (t183), (t184), Bb_6, H', ⟨Nat.le_refl _⟩, ⟨(by (with_reducible repeat (first | apply Kd.R_alloc | apply Kd.R_drewN | apply Kd.R_drew)); exact HO188.out)⟩, ⟨Bb_9⟩, ⟨Bb_5⟩⟩
 case round =>
  clear H'; try clear c1; try clear p2
  obtain ⟨x4_1, x5_1, x186001_1, x186002_1, rfl, HA, HK1, HO_4, HI185, HB⟩ := hrel; cases gk with
  | zero => exact absurd HA.out (by simp [spec_DrawEvents.l0])
  | succ k1 =>
   have H := HA.out; clear HA; simp only [spec_DrawEvents.l0] at H; replace H := Option.bind_eq_some_iff.mp H; obtain ⟨⟨t189, t190, t191⟩, A60, H⟩ := H; try dsimp only at H
   have A6 := Aside0.mk A60; clear A60; have HC7 := Aside0.mk H; clear H; go_upto_if 13 with (first | ((with_reducible refine gate_callee (f := 68) rfl ?_); refine gA_ (some 11) Try.func68 (spec_l01Below.calls g185 _ _ _ _ _ _ _ w _ ?side1 ?side2 A6.out) ?_; (case side1 => repeat (first | (with_reducible first | exact HI185.out | apply IsS161.alloc | apply IsS161.drewN | apply IsS161.drew | apply IsS161.set_1 | apply IsS161.set_2) | exact HI185.out)); (case side2 => repeat (first | (with_reducible first | exact HB.out | apply below_alloc | apply pw_below_drewN | apply below_drew1 | refine below_set ?_ (IsS161.ge HI185.out)) | exact HB.out)); rintro e w8 ⟨rfl, hi, hb, hk⟩; refine ⟨_, rfl, ?_⟩; replace HO_4 := Aside0.mk (Kd.R_mono (Kd.R_keep (IsS161.apart (show IsS161 w _ g185 t182 x186001_1 x186002_1 from by repeat (first | (with_reducible first | exact HI185.out | apply IsS161.alloc | apply IsS161.drewN | apply IsS161.drew | apply IsS161.set_1 | apply IsS161.set_2) | exact HI185.out)) Bb_10 (by decide)) hk (fun _ h => h.2)) (fun _ h => h.1)); replace HB := Aside0.mk (hb); replace HI185 := Aside0.mk (hi); (try clear hb); (try clear hb2); (try clear hk); (try clear hi)))
   (try simp only [Act.put, List.setIfInBounds_toArray, List.set_cons_zero, List.set_cons_succ]); have H := HC7.out; clear HC7; by_cases c9 : x5_1 < (wrap64 (1 + t189))
   ·rw [if_pos c9] at H
    have c9b0 : decide (x5_1 < (wrap64 (1 + t189))) = true := decide_eq_true c9; clear c9; (first | rw [c9b0] | (simp only [i64_w, i32_w]; rw [c9b0]) | skip); replace H := Option.bind_eq_some_iff.mp H; obtain ⟨⟨t192, t193, t194, t195, t196, t197⟩, A100, H⟩ := H; try dsimp only at H
    have A10 := Aside0.mk A100; clear A100; by_cases c11 : x4_1.length < 4398046511104
    ·rw [if_pos c11] at H
     have LMc11 := Aside0.mk c11; clear c11; obtain ⟨y198, hy198⟩ : ∃ y_ : List (S29), y_ = (x4_1 ++ [(⟨t192, t193, t194, t195⟩ : S29)]) := ⟨_, rfl⟩; replace H : (spec_DrawEvents.l0 k1 y198 (wrap64 (x5_1 + 1)) t182 t196 t197) = some r := by first | (rw [hy198]; with_reducible exact H) | (have H2_ := (Option.bind_some _ _).symm.trans H; rw [hy198]; with_reducible exact H2_) | (have H2_ := (Option.bind_some _ _).symm.trans H; with_reducible exact H2_) | with_reducible exact H | (rw [hy198]; exact H) | exact H
     have Ny198 := Aside0.mk hy198; clear hy198; have H' := Aside0.mk H; clear H; go_wp2_with (first | ((with_reducible refine gate_callee (f := 69) rfl ?_); refine gA_ (some 18) Try.func69 (spec_l29Event.calls _ g185 _ _ _ _ _ _ _ _ _ _ w _ ?side1 ?side2 A10.out) ?_; (case side1 => repeat (first | (with_reducible first | exact HI185.out | apply IsS161.alloc | apply IsS161.drewN | apply IsS161.drew | apply IsS161.set_1 | apply IsS161.set_2) | exact HI185.out)); (case side2 => repeat (first | (with_reducible first | exact HB.out | apply below_alloc | apply pw_below_drewN | apply below_drew1 | refine below_set ?_ (IsS161.ge HI185.out)) | exact HB.out)); rintro e w12 ⟨rfl, hi, hb, hk⟩; refine ⟨_, rfl, ?_⟩; replace HO_4 := Aside0.mk (Kd.R_mono (Kd.R_keep (IsS161.apart (show IsS161 w _ g185 t182 t190 t191 from by repeat (first | (with_reducible first | exact HI185.out | apply IsS161.alloc | apply IsS161.drewN | apply IsS161.drew | apply IsS161.set_1 | apply IsS161.set_2) | exact HI185.out)) Bb_10 (by decide)) hk (fun _ h => h.2)) (fun _ h => h.1)); replace HB := Aside0.mk (hb); replace HI185 := Aside0.mk (hi); (try clear hb); (try clear hb2); (try clear hk); (try clear hi)) | ((with_reducible refine gate_builtin (b := .append) (xs := #[.tmp 16, .tmp 19]) rfl ?_); at_builtin; refine Kd.R_append k29 (w0 := w) w.heap.size rfl (.tmp 16) (.tmp 19) 24 29 (.agg #[(.int .i64 0), (.int .i64 0), (.int .i64 0), (.int .i64 0)]) 32 rfl Try.underlying24 info29 rfl (by decide) (by omega) u4 x4_1 (⟨t192, t193, t194, t195⟩ : S29) [.int .i64 t192, .int .i64 t193, .int .i64 t194, .int .i64 t195] (fun _ => True) (fun _ => False) rfl rfl ?aP (fun _ hk => hk.elim) ?aF ?aO ?aB ?aS ?aL ?_; (case aP => exact k29_mkM _ _ _ (⟨t192, t193, t194, t195⟩ : S29)); (case aB => exact Bb_5); (case aF => exact (fun _ _ => trivial)); (case aO => exact Bb_10); (case aS => exact (below_size Bb_5)); (case aL => have := LMc11.out; omega); intro v199 w13 ho hb hg hat; rw [← Ny198.out] at ho; replace HI185 := Aside0.mk (IsS161.grown Bb_9 hg (IsS161.own_ne HI185.out HO_4.out (by decide))); replace HB := Aside0.mk (hb); have HO200 := Aside0.mk (ho); clear HO_4; clear ho hb hg hat)); go_roundg k1
     case measure => have := HK1.out; omega
     case rel => exact ⟨(y198), (wrap64 (x5_1 + 1)), (t196), (t197), Bb_6, H', ⟨(by have := HK1.out; omega)⟩, ⟨(by (with_reducible repeat (first | apply Kd.R_alloc | apply Kd.R_drewN | apply Kd.R_drew)); exact HO200.out)⟩, ⟨Bb_9⟩, ⟨Bb_5⟩⟩
    ·rw [if_neg c11] at H
     exact absurd H (by simp)
   ·rw [if_neg c9] at H
    have c9b0 : decide (x5_1 < (wrap64 (1 + t189))) = false := decide_eq_false c9; clear c9; (first | rw [c9b0] | (simp only [i64_w, i32_w]; rw [c9b0]) | skip); obtain rfl := Option.some.inj H; go_wp2; go_ret; exact ⟨_, Bb_4, Bb_10, Bb_5⟩
end Go.Proofs.Ytjmhhgnknjfnlaa.PFnEventsTold
namespace Go.Proofs.Ytjmhhgnknjfnlaa.PFnEventsTold
open Go.RowKit Go.Proofs.YtjmhhgnknjfnlaaW.PrintWords Go.Proofs.YtjmhhgnknjfnlaaW.PrintLast Go.Proofs.YtjmhhgnknjfnlaaW.PrintMore
attribute [local go_sem] max2_int min2_int max_two min_two max_three min_three max_four min_four
set_option linter.unusedVariables false
set_option linter.unusedSimpArgs false
def impl_wordOf.f (a0 : Int) : Option (ByteArray × Int) := if a0 = 1 then (some ((⟨#[115, 104, 111, 119]⟩ : ByteArray), 2)) else (if a0 = 2 then (some ((⟨#[103, 105, 118, 101]⟩ : ByteArray), 1)) else (if a0 = 3 then (some ((⟨#[116, 119, 105, 99, 101]⟩ : ByteArray), 1)) else (if a0 = 4 then (some ((⟨#[108, 111, 115, 101]⟩ : ByteArray), 1)) else (if a0 = 5 then (some ((⟨#[115, 112, 111, 105, 108]⟩ : ByteArray), 3)) else (if a0 = 6 then (some ((⟨#[106, 117, 110, 107]⟩ : ByteArray), 3)) else (if a0 = 7 then (some ((⟨#[97, 108, 108]⟩ : ByteArray), 0)) else (if a0 = 8 then (some ((⟨#[116, 105, 99, 107]⟩ : ByteArray), 0)) else (if a0 = 9 then (some ((⟨#[108, 97, 121]⟩ : ByteArray), 1)) else (some ((⟨#[]⟩ : ByteArray), 0))))))))))
set_option maxHeartbeats 8000000 in
set_option maxRecDepth 100000 in
theorem impl_wordOf.calls (a0 : Int) (r1 : ByteArray) (r2 : Int) (w : World) (h : impl_wordOf.f a0 = some (r1, r2)) :
  Calls Try.prog 70 #[.int .i64 a0] w fun e w' => e = .returned (.tuple #[.string r1, .int .i64 r2]) ∧ Drawn0 w w' := by
 have H : (if a0 = 1 then (some ((⟨#[115, 104, 111, 119]⟩ : ByteArray), 2)) else (if a0 = 2 then (some ((⟨#[103, 105, 118, 101]⟩ : ByteArray), 1)) else (if a0 = 3 then (some ((⟨#[116, 119, 105, 99, 101]⟩ : ByteArray), 1)) else (if a0 = 4 then (some ((⟨#[108, 111, 115, 101]⟩ : ByteArray), 1)) else (if a0 = 5 then (some ((⟨#[115, 112, 111, 105, 108]⟩ : ByteArray), 3)) else (if a0 = 6 then (some ((⟨#[106, 117, 110, 107]⟩ : ByteArray), 3)) else (if a0 = 7 then (some ((⟨#[97, 108, 108]⟩ : ByteArray), 0)) else (if a0 = 8 then (some ((⟨#[116, 105, 99, 107]⟩ : ByteArray), 0)) else (if a0 = 9 then (some ((⟨#[108, 97, 121]⟩ : ByteArray), 1)) else (some ((⟨#[]⟩ : ByteArray), 0))))))))))) = some (r1, r2) := h; clear h; by_cases c2 : a0 = 1
 ·rw [if_pos c2] at H
  have c2b0 : (a0 == 1) = true := beq_iff_eq.mpr c2; have c2b1 : (a0 != 1) = false := bne_eq_false_iff_eq.mpr c2; clear c2; simp only [Option.some.injEq, Prod.mk.injEq] at H; obtain ⟨rfl, rfl⟩ := H; go_enter Try.func70, Try.ntmps70; go_wp2; go_ret2
  exact ⟨Bb_6, Bb_8⟩
 ·rw [if_neg c2] at H
  have c2b0 : (a0 == 1) = false := beq_eq_false_iff_ne.mpr c2; have c2b1 : (a0 != 1) = true := bne_iff_ne.mpr c2; by_cases c3 : a0 = 2
  ·rw [if_pos c3] at H
   have c3b0 : (a0 == 2) = true := beq_iff_eq.mpr c3; have c3b1 : (a0 != 2) = false := bne_eq_false_iff_eq.mpr c3; clear c3; simp only [Option.some.injEq, Prod.mk.injEq] at H; obtain ⟨rfl, rfl⟩ := H; go_enter Try.func70, Try.ntmps70; go_wp2; go_ret2
   exact ⟨Bb_6, Bb_8⟩
  ·rw [if_neg c3] at H
   have c3b0 : (a0 == 2) = false := beq_eq_false_iff_ne.mpr c3; have c3b1 : (a0 != 2) = true := bne_iff_ne.mpr c3; by_cases c4 : a0 = 3
   ·rw [if_pos c4] at H
    have c4b0 : (a0 == 3) = true := beq_iff_eq.mpr c4; have c4b1 : (a0 != 3) = false := bne_eq_false_iff_eq.mpr c4; clear c4; simp only [Option.some.injEq, Prod.mk.injEq] at H; obtain ⟨rfl, rfl⟩ := H; go_enter Try.func70, Try.ntmps70; go_wp2; go_ret2
    exact ⟨Bb_6, Bb_8⟩
   ·rw [if_neg c4] at H
    have c4b0 : (a0 == 3) = false := beq_eq_false_iff_ne.mpr c4; have c4b1 : (a0 != 3) = true := bne_iff_ne.mpr c4; by_cases c5 : a0 = 4
    ·rw [if_pos c5] at H
     have c5b0 : (a0 == 4) = true := beq_iff_eq.mpr c5; have c5b1 : (a0 != 4) = false := bne_eq_false_iff_eq.mpr c5; clear c5; simp only [Option.some.injEq, Prod.mk.injEq] at H; obtain ⟨rfl, rfl⟩ := H; go_enter Try.func70, Try.ntmps70; go_wp2; go_ret2
     exact ⟨Bb_6, Bb_8⟩
    ·rw [if_neg c5] at H
     have c5b0 : (a0 == 4) = false := beq_eq_false_iff_ne.mpr c5; have c5b1 : (a0 != 4) = true := bne_iff_ne.mpr c5; by_cases c6 : a0 = 5
     ·rw [if_pos c6] at H
      have c6b0 : (a0 == 5) = true := beq_iff_eq.mpr c6; have c6b1 : (a0 != 5) = false := bne_eq_false_iff_eq.mpr c6; clear c6; simp only [Option.some.injEq, Prod.mk.injEq] at H; obtain ⟨rfl, rfl⟩ := H; go_enter Try.func70, Try.ntmps70; go_wp2; go_ret2
      exact ⟨Bb_6, Bb_8⟩
     ·rw [if_neg c6] at H
      have c6b0 : (a0 == 5) = false := beq_eq_false_iff_ne.mpr c6; have c6b1 : (a0 != 5) = true := bne_iff_ne.mpr c6; by_cases c7 : a0 = 6
      ·rw [if_pos c7] at H
       have c7b0 : (a0 == 6) = true := beq_iff_eq.mpr c7; have c7b1 : (a0 != 6) = false := bne_eq_false_iff_eq.mpr c7; clear c7; simp only [Option.some.injEq, Prod.mk.injEq] at H; obtain ⟨rfl, rfl⟩ := H; go_enter Try.func70, Try.ntmps70; go_wp2; go_ret2
       exact ⟨Bb_6, Bb_8⟩
      ·rw [if_neg c7] at H
       have c7b0 : (a0 == 6) = false := beq_eq_false_iff_ne.mpr c7; have c7b1 : (a0 != 6) = true := bne_iff_ne.mpr c7; by_cases c8 : a0 = 7
       ·rw [if_pos c8] at H
        have c8b0 : (a0 == 7) = true := beq_iff_eq.mpr c8; have c8b1 : (a0 != 7) = false := bne_eq_false_iff_eq.mpr c8; clear c8; simp only [Option.some.injEq, Prod.mk.injEq] at H; obtain ⟨rfl, rfl⟩ := H; go_enter Try.func70, Try.ntmps70; go_wp2; go_ret2
        exact ⟨Bb_6, Bb_8⟩
       ·rw [if_neg c8] at H
        have c8b0 : (a0 == 7) = false := beq_eq_false_iff_ne.mpr c8; have c8b1 : (a0 != 7) = true := bne_iff_ne.mpr c8; by_cases c9 : a0 = 8
        ·rw [if_pos c9] at H
         have c9b0 : (a0 == 8) = true := beq_iff_eq.mpr c9; have c9b1 : (a0 != 8) = false := bne_eq_false_iff_eq.mpr c9; clear c9; simp only [Option.some.injEq, Prod.mk.injEq] at H; obtain ⟨rfl, rfl⟩ := H; go_enter Try.func70, Try.ntmps70; go_wp2; go_ret2
         exact ⟨Bb_6, Bb_8⟩
        ·rw [if_neg c9] at H
         have c9b0 : (a0 == 8) = false := beq_eq_false_iff_ne.mpr c9; have c9b1 : (a0 != 8) = true := bne_iff_ne.mpr c9; by_cases c10 : a0 = 9
         ·rw [if_pos c10] at H
          have c10b0 : (a0 == 9) = true := beq_iff_eq.mpr c10; have c10b1 : (a0 != 9) = false := bne_eq_false_iff_eq.mpr c10; clear c10; simp only [Option.some.injEq, Prod.mk.injEq] at H; obtain ⟨rfl, rfl⟩ := H; go_enter Try.func70, Try.ntmps70; go_wp2; go_ret2
          exact ⟨Bb_6, Bb_8⟩
         ·rw [if_neg c10] at H
          have c10b0 : (a0 == 9) = false := beq_eq_false_iff_ne.mpr c10; have c10b1 : (a0 != 9) = true := bne_iff_ne.mpr c10; simp only [Option.some.injEq, Prod.mk.injEq] at H; obtain ⟨rfl, rfl⟩ := H; go_enter Try.func70, Try.ntmps70; go_wp2; go_ret2
          exact ⟨Bb_6, Bb_8⟩
end Go.Proofs.Ytjmhhgnknjfnlaa.PFnEventsTold
namespace Go.Proofs.Ytjmhhgnknjfnlaa.PFnEventsTold
open Go.RowKit Go.Proofs.YtjmhhgnknjfnlaaW.PrintWords Go.Proofs.YtjmhhgnknjfnlaaW.PrintLast Go.Proofs.YtjmhhgnknjfnlaaW.PrintMore
attribute [local go_sem] max2_int min2_int max_two min_two max_three min_three max_four min_four
set_option linter.unusedVariables false
set_option linter.unusedSimpArgs false
def impl_within.f (a0 : Int) (a1 : Int) (a2 : Int) : Option (Bool) := if a0 ≥ a1 then (some (decide (a0 ≤ a2))) else (some false)
set_option maxHeartbeats 8000000 in
set_option maxRecDepth 100000 in
theorem impl_within.calls (a0 : Int) (a1 : Int) (a2 : Int) (r : Bool) (w : World) (h : impl_within.f a0 a1 a2 = some r) :
  Calls Try.prog 71 #[.int .i64 a0, .int .i64 a1, .int .i64 a2] w fun e w' => e = .returned (.bool r) ∧ Drawn0 w w' := by
 have H : (if a0 ≥ a1 then (some (decide (a0 ≤ a2))) else (some false)) = some r := h; clear h; by_cases c4 : a0 ≥ a1
 ·rw [if_pos c4] at H
  have c4b0 : decide (a1 ≤ a0) = true := decide_eq_true c4; clear c4; obtain rfl := Option.some.inj H; go_enter Try.func71, Try.ntmps71; go_wp2; go_ret; exact ⟨Bb_6, Bb_8⟩
 ·rw [if_neg c4] at H
  have c4b0 : decide (a1 ≤ a0) = false := decide_eq_false c4; clear c4; obtain rfl := Option.some.inj H; go_enter Try.func71, Try.ntmps71; go_wp2; go_ret; exact ⟨Bb_6, Bb_8⟩
end Go.Proofs.Ytjmhhgnknjfnlaa.PFnEventsTold
namespace Go.Proofs.Ytjmhhgnknjfnlaa.PFnEventsTold
open Go.RowKit Go.Proofs.YtjmhhgnknjfnlaaW.PrintWords Go.Proofs.YtjmhhgnknjfnlaaW.PrintLast Go.Proofs.YtjmhhgnknjfnlaaW.PrintMore
attribute [local go_sem] max2_int min2_int max_two min_two max_three min_three max_four min_four
set_option linter.unusedVariables false
set_option linter.unusedSimpArgs false
def impl_Decimal.l0 : Nat → Int → ByteArray → Int → Option (ByteArray)
 | 0, _, _, _ => none
 | k + 1, x0, x3, x4 => if x4 = 0 then (if x0 < 0 then (if 1 + x3.size ≤ 9223372036854775807 then (some ((⟨#[45]⟩ : ByteArray) ++ x3)) else (none)) else (some x3)) else (if 0 ≤ (mx (Int.tmod x4 10) (wrap64 (-(Int.tmod x4 10)))) then (if (mx (Int.tmod x4 10) (wrap64 (-(Int.tmod x4 10)))) ≤ (wrap64 ((mx (Int.tmod x4 10) (wrap64 (-(Int.tmod x4 10)))) + 1)) then (if (wrap64 ((mx (Int.tmod x4 10) (wrap64 (-(Int.tmod x4 10)))) + 1)) ≤ 16 then (if ((⟨#[48, 49, 50, 51, 52, 53, 54, 55, 56, 57, 97, 98, 99, 100, 101, 102]⟩ : ByteArray).extract ((mx (Int.tmod x4 10) (wrap64 (-(Int.tmod x4 10)))) : Int).toNat ((wrap64 ((mx (Int.tmod x4 10) (wrap64 (-(Int.tmod x4 10)))) + 1)) : Int).toNat).size + x3.size ≤ 9223372036854775807 then (impl_Decimal.l0 k x0 (((⟨#[48, 49, 50, 51, 52, 53, 54, 55, 56, 57, 97, 98, 99, 100, 101, 102]⟩ : ByteArray).extract ((mx (Int.tmod x4 10) (wrap64 (-(Int.tmod x4 10)))) : Int).toNat ((wrap64 ((mx (Int.tmod x4 10) (wrap64 (-(Int.tmod x4 10)))) + 1)) : Int).toNat) ++ x3) (wrap64 (Int.tdiv x4 10))) else (none)) else (none)) else (none)) else (none))
def impl_Decimal.f (k : Nat) (a0 : Int) : Option (ByteArray) := if a0 = 0 then (some (⟨#[48]⟩ : ByteArray)) else (impl_Decimal.l0 k a0 (⟨#[]⟩ : ByteArray) a0)
theorem impl_Decimal.mono_l : ∀ k, (∀ y0 y1 y2, LeO (impl_Decimal.l0 k y0 y1 y2) (impl_Decimal.l0 (k + 1) y0 y1 y2))
 | 0 => fun _ _ _ r h => by simp [impl_Decimal.l0] at h
 | k + 1 => by
  have ih0 := impl_Decimal.mono_l k
  ·intro y0 y1 y2
   unfold impl_Decimal.l0
   repeat' first
   | (with_reducible exact ih0 _ _ _)
   | (with_reducible exact LeO.refl _)
   | (with_reducible exact LeO.none _)
   | (with_reducible refine LeO.ite ?_ ?_)
   | (with_reducible refine LeO.bind ?_ (fun _ => ?_))
   | exact ih0 _ _ _
   | exact LeO.none _
   | refine LeO.ite ?_ ?_
   | refine LeO.bind ?_ (fun _ => ?_)
theorem impl_Decimal.mono : ∀ a0 k, LeO (impl_Decimal.f k a0) (impl_Decimal.f (k + 1) a0) := by
 intro a0 k; have ih0 := impl_Decimal.mono_l k; unfold impl_Decimal.f
 repeat' first
   | (with_reducible exact ih0 _ _ _)
   | (with_reducible exact LeO.refl _)
   | (with_reducible exact LeO.none _)
   | (with_reducible refine LeO.ite ?_ ?_)
   | (with_reducible refine LeO.bind ?_ (fun _ => ?_))
   | exact ih0 _ _ _
   | exact LeO.none _
   | refine LeO.ite ?_ ?_
   | refine LeO.bind ?_ (fun _ => ?_)
set_option maxHeartbeats 8000000 in
set_option maxRecDepth 100000 in
theorem impl_Decimal.calls (k : Nat) (a0 : Int) (r : ByteArray) (w : World) (h : impl_Decimal.f k a0 = some r) :
  Calls Try.prog 72 #[.int .i64 a0] w fun e w' => e = .returned (.string r) ∧ Below w.heap.size w w' := by
 have HB := Aside0.mk (Below.refl w.heap.size w); have H : (if a0 = 0 then (some (⟨#[48]⟩ : ByteArray)) else (impl_Decimal.l0 k a0 (⟨#[]⟩ : ByteArray) a0)) = some r := h; clear h; by_cases c2 : a0 = 0
 ·rw [if_pos c2] at H
  have c2b0 : (a0 == 0) = true := beq_iff_eq.mpr c2; have c2b1 : (a0 != 0) = false := bne_eq_false_iff_eq.mpr c2; clear c2; obtain rfl := Option.some.inj H; go_enter Try.func72, Try.ntmps72; go_wp2; go_ret; exact ⟨Bb_4, hb_⟩
 ·rw [if_neg c2] at H
  have c2b0 : (a0 == 0) = false := beq_eq_false_iff_ne.mpr c2; have c2b1 : (a0 != 0) = true := bne_iff_ne.mpr c2; have H' := Aside0.mk H; clear H; go_enter Try.func72, Try.ntmps72; go_wp2; go_loopg [3, 4] k (fun kq v3 v4 w' => ∃ (x3_1 : ByteArray) (x4_1 : Int), v3 = .string x3_1 ∧ v4 = .int .i64 x4_1 ∧ Aside0 (impl_Decimal.l0 kq a0 x3_1 x4_1 = some r) ∧ Aside0 (kq ≤ k) ∧ Aside0 (Below w.heap.size w w'))
  case atStart => exact ⟨((⟨#[]⟩ : ByteArray)), (a0), Bb_6, Bb_6, H', ⟨Nat.le_refl _⟩, ⟨hb_⟩⟩
  case round =>
   clear H'; try clear c2; try clear c2b0; try clear c2b1; try clear p2
   obtain ⟨x3_1, x4_1, rfl, rfl, HA, HK1, HB⟩ := hrel; cases gk with
   | zero => exact absurd HA.out (by simp [impl_Decimal.l0])
   | succ k1 =>
    have H := HA.out; clear HA; simp only [impl_Decimal.l0] at H; by_cases c3 : x4_1 = 0
    ·rw [if_pos c3] at H
     have c3b0 : (x4_1 == 0) = true := beq_iff_eq.mpr c3; have c3b1 : (x4_1 != 0) = false := bne_eq_false_iff_eq.mpr c3; clear c3; by_cases c4 : a0 < 0
     ·rw [if_pos c4] at H
      have c4b0 : decide (a0 < 0) = true := decide_eq_true c4; clear c4; by_cases c5 : 1 + x3_1.size ≤ 9223372036854775807
      ·rw [if_pos c5] at H
       have c5b0 := eq_true c5; have c5b1 : decide (1 + x3_1.size ≤ 9223372036854775807) = true := decide_eq_true c5; try have c5b2 : (9223372036854775807 < 1 + x3_1.size) = False := eq_false (Nat.not_lt.2 c5)
       obtain rfl := Option.some.inj H; go_wp2; go_ret; exact ⟨Bb_4, hb_⟩
      ·rw [if_neg c5] at H
       exact absurd H (by simp)
     ·rw [if_neg c4] at H
      have c4b0 : decide (a0 < 0) = false := decide_eq_false c4; clear c4; obtain rfl := Option.some.inj H; go_wp2; go_ret; exact ⟨Bb_4, hb_⟩
    ·rw [if_neg c3] at H
     have c3b0 : (x4_1 == 0) = false := beq_eq_false_iff_ne.mpr c3; have c3b1 : (x4_1 != 0) = true := bne_iff_ne.mpr c3; obtain ⟨ji6, hji6⟩ : ∃ j_ : Int, (mx (Int.tmod x4_1 10) (wrap64 (-(Int.tmod x4_1 10)))) = j_ := ⟨_, rfl⟩; (first | rw [hji6] at H | simp only [hji6] at H); have hji6_ : (if (Int.tmod x4_1 10) < (wrap64 (-(Int.tmod x4_1 10))) then (wrap64 (-(Int.tmod x4_1 10))) else (Int.tmod x4_1 10)) = ji6 := hji6; by_cases c7 : 0 ≤ (ji6)
     ·rw [if_pos c7] at H
      have c7b0 := eq_true c7; have c7b1 : decide (0 ≤ (ji6)) = true := decide_eq_true c7; clear c7; by_cases c8 : (ji6) ≤ (wrap64 ((ji6) + 1))
      ·rw [if_pos c8] at H
       have c8b0 := eq_true c8; have c8b1 : decide ((ji6) ≤ (wrap64 ((ji6) + 1))) = true := decide_eq_true c8; by_cases c9 : (wrap64 ((ji6) + 1)) ≤ 16
       ·rw [if_pos c9] at H
        have c9b0 := eq_true c9; have c9b1 : decide ((wrap64 ((ji6) + 1)) ≤ 16) = true := decide_eq_true c9; by_cases c10 : ((⟨#[48, 49, 50, 51, 52, 53, 54, 55, 56, 57, 97, 98, 99, 100, 101, 102]⟩ : ByteArray).extract ((ji6) : Int).toNat ((wrap64 ((ji6) + 1)) : Int).toNat).size + x3_1.size ≤ 9223372036854775807
        ·rw [if_pos c10] at H
         have c10b0 := eq_true c10; have c10b1 : decide (((⟨#[48, 49, 50, 51, 52, 53, 54, 55, 56, 57, 97, 98, 99, 100, 101, 102]⟩ : ByteArray).extract ((ji6) : Int).toNat ((wrap64 ((ji6) + 1)) : Int).toNat).size + x3_1.size ≤ 9223372036854775807) = true := decide_eq_true c10; try have c10b2 : (9223372036854775807 < ((⟨#[48, 49, 50, 51, 52, 53, 54, 55, 56, 57, 97, 98, 99, 100, 101, 102]⟩ : ByteArray).extract ((ji6) : Int).toNat ((wrap64 ((ji6) + 1)) : Int).toNat).size + x3_1.size) = False := eq_false (Nat.not_lt.2 c10)
         have H' := Aside0.mk H; clear H; go_wp2; go_roundg k1
         case measure => have := HK1.out; omega
         case rel => exact ⟨(((⟨#[48, 49, 50, 51, 52, 53, 54, 55, 56, 57, 97, 98, 99, 100, 101, 102]⟩ : ByteArray).extract ((ji6) : Int).toNat ((wrap64 ((ji6) + 1)) : Int).toNat) ++ x3_1), (wrap64 (Int.tdiv x4_1 10)), (by first | rfl | (simp; done) | (simp only [← hji6] <;> (first | rfl | simp)) | (simp [*]; done)), Bb_6, H', ⟨(by have := HK1.out; omega)⟩, ⟨hb_⟩⟩
        ·rw [if_neg c10] at H
         exact absurd H (by simp)
       ·rw [if_neg c9] at H
        exact absurd H (by simp)
      ·rw [if_neg c8] at H
       exact absurd H (by simp)
     ·rw [if_neg c7] at H
      exact absurd H (by simp)
end Go.Proofs.Ytjmhhgnknjfnlaa.PFnEventsTold
