-- functions and their walks: written by a program of this claim's
import Derived.Test.YtjmhhgnknjfnlaaProg
import Derived.Test.YtjmhhgnknjfnlaaVFnExactReadLayout
import Derived.Test.YtjmhhgnknjfnlaaZFnExactReadLayouty1
namespace Go.Proofs.Ytjmhhgnknjfnlaa.PFnExactReadLayout
open Go.RowKit Go.Proofs.YtjmhhgnknjfnlaaW.PrintWords Go.Proofs.YtjmhhgnknjfnlaaW.PrintLast Go.Proofs.YtjmhhgnknjfnlaaW.PrintMore
attribute [local go_sem] max2_int min2_int max_two min_two max_three min_three max_four min_four
set_option linter.unusedVariables false
set_option linter.unusedSimpArgs false
theorem Bc_0 {P : Prop} (h : P := by repeat (first | (with_reducible first | exact HB.out | apply below_alloc | apply pw_below_drewN | apply below_drew1 | refine below_set ?_ GE245.out) | exact HB.out)) : P := h
theorem Bc_1 {P : Prop} (h : P := by repeat (first | (with_reducible first | exact HB.out | apply below_alloc | apply pw_below_drewN | apply below_drew1 | refine below_set ?_ GE245.out | refine below_set ?_ GE261.out) | exact HB.out)) : P := h
theorem Bc_2 {P : Prop} (h : P := by (with_reducible repeat (first | refine blk_drewN ?_ _ | refine blk_drew ?_ | refine blk_alloc ?_ _)); exact BK245.out) : P := h
theorem Bc_3 {P : Prop} (h : P := by first | exact Kd.own_blk (Kd.R_ne HO248.out BK261.out (by decide)) | (rw [add_block]; exact Kd.own_blk (Kd.R_ne HO248.out BK261.out (by decide))) | (show (Addr.add _ _).block ≠ _; rw [add_block]; exact Kd.own_blk (Kd.R_ne HO248.out BK261.out (by decide))) | (dsimp only; exact Kd.own_blk (Kd.R_ne HO248.out BK261.out (by decide)))) : P := h
theorem Bc_4 {P : Prop} (h : P := by (try simp only [List.map_toArray, List.map_cons, List.map_nil]); first | done | rfl | (simp only [List.length_drop, List.length_take]; rfl)) : P := h
theorem Bc_5 {P : Prop} (h : P := by (with_reducible repeat (first | apply Kd.R_alloc | apply Kd.R_drewN | apply Kd.R_drew)); exact HO248.out) : P := h
theorem Bc_6 {P : Prop} (h : P := by (with_reducible repeat (first | apply Kd.R_alloc | apply Kd.R_drewN | apply Kd.R_drew)); exact HO252.out) : P := h
theorem Bc_7 {P : Prop} (h : P := by repeat (first | (with_reducible first | exact HB.out | apply below_alloc | apply pw_below_drewN | apply below_drew1) | exact HB.out)) : P := h
theorem Bc_8 {P : Prop} (h : P := by (with_reducible repeat (first | refine blk_drewN ?_ _ | refine blk_drew ?_ | refine blk_alloc ?_ _)); exact BK261.out) : P := h
theorem Bc_9 {P : Prop} (h : P := by (with_reducible repeat (first | apply Kd.R_alloc | apply Kd.R_drewN | apply Kd.R_drew)); exact HO256.out) : P := h
theorem Bc_10 {P : Prop} (h : P := by (with_reducible repeat (first | refine blk_drewN ?_ _ | refine blk_drew ?_ | refine blk_alloc ?_ _)); refine blk_put (cs := #[.slice none 0 0, .slice none 0 0, .slice none 0 0]) ?_ 2 _ rfl; (with_reducible repeat (first | refine blk_drewN ?_ _ | refine blk_drew ?_ | refine blk_alloc ?_ _)); refine blk_put (cs := #[.slice none 0 0, .slice none 0 0, .slice none 0 0]) ?_ 1 _ rfl; (with_reducible repeat (first | refine blk_drewN ?_ _ | refine blk_drew ?_ | refine blk_alloc ?_ _)); refine blk_put (cs := #[.slice none 0 0, .slice none 0 0, .slice none 0 0]) ?_ 0 _ rfl; (with_reducible repeat (first | refine blk_drewN ?_ _ | refine blk_drew ?_ | refine blk_alloc ?_ _)); exact BK245.out) : P := h
theorem Bc_11 {P : Prop} (h : P := by first | (with_reducible assumption) | assumption) : P := h
theorem Bc_12 {P : Prop} (h : P := by (with_reducible repeat (first | apply Kd.R_alloc | apply Kd.R_drewN | apply Kd.R_drew)); exact Kd.R_mono HO252.out (fun _ hk => ⟨hk.1.2, hk.2⟩)) : P := h
theorem Bc_13 {P : Prop} (h : P := by (with_reducible repeat (first | apply Kd.R_alloc | apply Kd.R_drewN | apply Kd.R_drew)); exact Kd.R_mono HO256.out (fun _ hk => ⟨hk.1.2, hk.2⟩)) : P := h
theorem Bc_14 {P : Prop} (h : P := by (with_reducible repeat (first | apply Kd.R_alloc | apply Kd.R_drewN | apply Kd.R_drew)); exact Kd.R_mono HO260.out (fun _ hk => ⟨hk.1.2, hk.2⟩)) : P := h
theorem Bc_15 {P : Prop} (h : P := by (with_reducible repeat (first | refine blk_drewN ?_ _ | refine blk_drew ?_ | refine blk_alloc ?_ _)); refine blk_far ?_ NB245_261.out _; (with_reducible repeat (first | refine blk_drewN ?_ _ | refine blk_drew ?_ | refine blk_alloc ?_ _)); refine blk_far ?_ NB245_261.out _; (with_reducible repeat (first | refine blk_drewN ?_ _ | refine blk_drew ?_ | refine blk_alloc ?_ _)); refine blk_far ?_ NB245_261.out _; (with_reducible repeat (first | refine blk_drewN ?_ _ | refine blk_drew ?_ | refine blk_alloc ?_ _)); exact BK245.out) : P := h
theorem Bc_16 {P : Prop} (h : P := by simp only [putAll, Act.put, List.setIfInBounds_toArray, List.set_cons_zero, List.set_cons_succ]) : P := h
theorem Bc_17 {P : Prop} (h : P := by repeat (first | (with_reducible first | exact HB.out | apply below_alloc | apply pw_below_drewN | apply below_drew1 | refine below_set ?_ GE227.out) | exact HB.out)) : P := h
theorem Bc_18 {P : Prop} (h : P := by first | rfl | (simp; done) | (simp [*]; done)) : P := h
theorem Bc_19 {P : Prop} (h : P := by repeat (first | (with_reducible first | exact HB.out | apply below_alloc | apply pw_below_drewN | apply below_drew1 | refine below_set ?_ GE240.out) | exact HB.out)) : P := h
theorem Bc_20 {P : Prop} (h : P := by (with_reducible repeat (first | refine blk_drewN ?_ _ | refine blk_drew ?_ | refine blk_alloc ?_ _)); exact BK227.out) : P := h
theorem Bc_21 {P : Prop} (h : P := by (with_reducible repeat (first | refine blk_drewN ?_ _ | refine blk_drew ?_ | refine blk_alloc ?_ _)); exact BK240.out) : P := h
theorem Bc_22 {P : Prop} (h : P := by (with_reducible repeat (first | apply Kd.R_alloc | apply Kd.R_drewN | apply Kd.R_drew)); exact (Kd.R_mono (Kd.R_far (p := ⟨gb261, 2, none⟩) (Kd.R_far (p := ⟨gb261, 1, none⟩) (Kd.R_far (p := ⟨gb261, 0, none⟩) (Kd.R_types HO252.out BK261.out (by decide)) (fun _ hk => hk.2) (.slice Ao30 t250.length co30)) (fun _ hk => hk.2) (.slice Ao29 t254.length co29)) (fun _ hk => hk.2) (.slice Ao28 t258.length co28)) (fun _ h_ => h_.1))) : P := h
theorem Bc_23 {P : Prop} (h : P := by (with_reducible repeat (first | apply Kd.R_alloc | apply Kd.R_drewN | apply Kd.R_drew)); exact (Kd.R_mono (Kd.R_far (p := ⟨gb261, 2, none⟩) (Kd.R_far (p := ⟨gb261, 1, none⟩) (Kd.R_far (p := ⟨gb261, 0, none⟩) (Kd.R_types HO256.out BK261.out (by decide)) (fun _ hk => hk.2) (.slice Ao30 t250.length co30)) (fun _ hk => hk.2) (.slice Ao29 t254.length co29)) (fun _ hk => hk.2) (.slice Ao28 t258.length co28)) (fun _ h_ => h_.1))) : P := h
theorem Bc_24 {P : Prop} (h : P := by (with_reducible repeat (first | apply Kd.R_alloc | apply Kd.R_drewN | apply Kd.R_drew)); exact (Kd.R_mono (Kd.R_far (p := ⟨gb261, 2, none⟩) (Kd.R_far (p := ⟨gb261, 1, none⟩) (Kd.R_far (p := ⟨gb261, 0, none⟩) (Kd.R_types HO260.out BK261.out (by decide)) (fun _ hk => hk.2) (.slice Ao30 t250.length co30)) (fun _ hk => hk.2) (.slice Ao29 t254.length co29)) (fun _ hk => hk.2) (.slice Ao28 t258.length co28)) (fun _ h_ => h_.1))) : P := h
theorem Bc_25 {P : Prop} (h : P := by (with_reducible repeat (first | apply Kd.R_alloc | apply Kd.R_drewN | apply Kd.R_drew)); exact (Kd.R_mono (Kd.R_far (p := ⟨gb261, 2, none⟩) (Kd.R_far (p := ⟨gb261, 1, none⟩) (Kd.R_far (p := ⟨gb261, 0, none⟩) (Kd.R_types HO252.out BK261.out (by decide)) (fun _ hk => hk.2) (.slice Ao53 t250.length co53)) (fun _ hk => hk.2) (.slice Ao52 t254.length co52)) (fun _ hk => hk.2) (.slice Ao51 t258.length co51)) (fun _ h_ => h_.1))) : P := h
theorem Bc_26 {P : Prop} (h : P := by (with_reducible repeat (first | apply Kd.R_alloc | apply Kd.R_drewN | apply Kd.R_drew)); exact (Kd.R_mono (Kd.R_far (p := ⟨gb261, 2, none⟩) (Kd.R_far (p := ⟨gb261, 1, none⟩) (Kd.R_far (p := ⟨gb261, 0, none⟩) (Kd.R_types HO256.out BK261.out (by decide)) (fun _ hk => hk.2) (.slice Ao53 t250.length co53)) (fun _ hk => hk.2) (.slice Ao52 t254.length co52)) (fun _ hk => hk.2) (.slice Ao51 t258.length co51)) (fun _ h_ => h_.1))) : P := h
theorem Bc_27 {P : Prop} (h : P := by (with_reducible repeat (first | apply Kd.R_alloc | apply Kd.R_drewN | apply Kd.R_drew)); exact (Kd.R_mono (Kd.R_far (p := ⟨gb261, 2, none⟩) (Kd.R_far (p := ⟨gb261, 1, none⟩) (Kd.R_far (p := ⟨gb261, 0, none⟩) (Kd.R_types HO260.out BK261.out (by decide)) (fun _ hk => hk.2) (.slice Ao53 t250.length co53)) (fun _ hk => hk.2) (.slice Ao52 t254.length co52)) (fun _ hk => hk.2) (.slice Ao51 t258.length co51)) (fun _ h_ => h_.1))) : P := h
theorem Bc_28 {P : Prop} (h : P := by (with_reducible repeat (first | apply Kd.R_alloc | apply Kd.R_drewN | apply Kd.R_drew)); exact (Kd.R_mono (Kd.R_far (p := ⟨gb261, 2, none⟩) (Kd.R_far (p := ⟨gb261, 1, none⟩) (Kd.R_far (p := ⟨gb261, 0, none⟩) (Kd.R_types HO252.out BK261.out (by decide)) (fun _ hk => hk.2) (.slice Ao75 t250.length co75)) (fun _ hk => hk.2) (.slice Ao74 t254.length co74)) (fun _ hk => hk.2) (.slice Ao73 t258.length co73)) (fun _ h_ => h_.1))) : P := h
theorem Bc_29 {P : Prop} (h : P := by (with_reducible repeat (first | apply Kd.R_alloc | apply Kd.R_drewN | apply Kd.R_drew)); exact (Kd.R_mono (Kd.R_far (p := ⟨gb261, 2, none⟩) (Kd.R_far (p := ⟨gb261, 1, none⟩) (Kd.R_far (p := ⟨gb261, 0, none⟩) (Kd.R_types HO256.out BK261.out (by decide)) (fun _ hk => hk.2) (.slice Ao75 t250.length co75)) (fun _ hk => hk.2) (.slice Ao74 t254.length co74)) (fun _ hk => hk.2) (.slice Ao73 t258.length co73)) (fun _ h_ => h_.1))) : P := h
theorem Bc_30 {P : Prop} (h : P := by (with_reducible repeat (first | apply Kd.R_alloc | apply Kd.R_drewN | apply Kd.R_drew)); exact (Kd.R_mono (Kd.R_far (p := ⟨gb261, 2, none⟩) (Kd.R_far (p := ⟨gb261, 1, none⟩) (Kd.R_far (p := ⟨gb261, 0, none⟩) (Kd.R_types HO260.out BK261.out (by decide)) (fun _ hk => hk.2) (.slice Ao75 t250.length co75)) (fun _ hk => hk.2) (.slice Ao74 t254.length co74)) (fun _ hk => hk.2) (.slice Ao73 t258.length co73)) (fun _ h_ => h_.1))) : P := h
theorem Bc_31 {P : Prop} (h : P := by (with_reducible repeat (first | apply Kd.R_alloc | apply Kd.R_drewN | apply Kd.R_drew)); exact HO260.out) : P := h
def spec_LevelFor.l0 : Nat → List Int → List Int → Int → Option (Int)
 | 0, _, _, _ => none
 | k + 1, x0, x1, x5 => if x5 ≤ 3 then ((spec_SeqOk.f k x5 3 x0 x1).bind fun t226 => (if t226 = true then (some x5) else (spec_LevelFor.l0 k x0 x1 (wrap64 (x5 + 1))))) else (some 0)
def spec_LevelFor.f (k : Nat) (l0 : List Int) (l1 : List Int) : Option (Int) := spec_LevelFor.l0 k l0 l1 1
theorem spec_LevelFor.mono_l : ∀ k, (∀ y0 y1 y2, LeO (spec_LevelFor.l0 k y0 y1 y2) (spec_LevelFor.l0 (k + 1) y0 y1 y2))
 | 0 => fun _ _ _ r h => by simp [spec_LevelFor.l0] at h
 | k + 1 => by
  have ih0 := spec_LevelFor.mono_l k
  ·intro y0 y1 y2
   unfold spec_LevelFor.l0
   repeat' first
   | (with_reducible exact ih0 _ _ _)
   | (with_reducible exact spec_SeqOk.mono _ _ _ _ _)
   | (with_reducible exact LeO.refl _)
   | (with_reducible exact LeO.none _)
   | (with_reducible refine LeO.ite ?_ ?_)
   | (with_reducible refine LeO.bind ?_ (fun _ => ?_))
   | exact ih0 _ _ _
   | exact spec_SeqOk.mono _ _ _ _ _
   | exact LeO.none _
   | refine LeO.ite ?_ ?_
   | refine LeO.bind ?_ (fun _ => ?_)
theorem spec_LevelFor.mono : ∀ a0 a1 k, LeO (spec_LevelFor.f k a0 a1) (spec_LevelFor.f (k + 1) a0 a1) := by
 intro a0 a1 k
 have ih0 := spec_LevelFor.mono_l k
 unfold spec_LevelFor.f
 repeat' first
   | (with_reducible exact ih0 _ _ _)
   | (with_reducible exact spec_SeqOk.mono _ _ _ _ _)
   | (with_reducible exact LeO.refl _)
   | (with_reducible exact LeO.none _)
   | (with_reducible refine LeO.ite ?_ ?_)
   | (with_reducible refine LeO.bind ?_ (fun _ => ?_))
   | exact ih0 _ _ _
   | exact spec_SeqOk.mono _ _ _ _ _
   | exact LeO.none _
   | refine LeO.ite ?_ ?_
   | refine LeO.bind ?_ (fun _ => ?_)
set_option maxHeartbeats 8000000 in
set_option maxRecDepth 100000 in
theorem spec_LevelFor.calls (k : Nat) (A0 : Option Addr) (c0 : Nat) (l0 : List Int) (A1 : Option Addr) (c1 : Nat) (l1 : List Int) (r : Int) (w : World) (hr0 : Kd.C (Kd.int .i64) w A0 l0.length l0) (hc0 : l0.length ≤ c0) (hr1 : Kd.C (Kd.int .i64) w A1 l1.length l1) (hc1 : l1.length ≤ c1) (h : spec_LevelFor.f k l0 l1 = some r) :
  Calls Try.prog 145 #[.slice A0 l0.length c0, .slice A1 l1.length c1] w fun e w' => e = .returned (.int .i64 r) ∧ Below w.heap.size w w' := by
 have hu46 := Try.underlying46
 have HR0 := Aside0.mk hr0
 have HC0 := Aside0.mk hc0
 clear hr0 hc0
 have HR1 := Aside0.mk hr1
 have HC1 := Aside0.mk hc1
 clear hr1 hc1
 have HB := Aside0.mk (Below.refl w.heap.size w)
 have H : (spec_LevelFor.l0 k l0 l1 1) = some r := h
 clear h
 have H' := Aside0.mk H
 clear H
 go_enter Try.func145, Try.ntmps145
 go_wp2
 go_loopg [5] k (fun kq v5 w' => ∃ (x5_1 : Int), v5 = .int .i64 x5_1 ∧ Aside0 (spec_LevelFor.l0 kq l0 l1 x5_1 = some r) ∧ Aside0 (kq ≤ k) ∧ Aside0 (Below w.heap.size w w'))
 case atStart => exact ⟨(1), Bc_18, H', ⟨Nat.le_refl _⟩, ⟨by repeat (first | (with_reducible first | exact HB.out | apply below_alloc | apply pw_below_drewN | apply below_drew1) | exact HB.out)⟩⟩
 case round =>
  clear H'
  try clear c1; try clear p2
  obtain ⟨x5_1, rfl, HA, HK1, HB⟩ := hrel
  cases gk with
  | zero => exact absurd HA.out (by simp [spec_LevelFor.l0])
  | succ k1 =>
   have H := HA.out
   clear HA
   simp only [spec_LevelFor.l0] at H
   by_cases c3 : x5_1 ≤ 3
   ·rw [if_pos c3] at H
    have c3b0 : decide (x5_1 ≤ 3) = true := decide_eq_true c3
    clear c3
    replace H := Option.bind_eq_some_iff.mp H
    obtain ⟨t226, A40, H⟩ := H
    replace H : (if t226 = true then (some x5_1) else (spec_LevelFor.l0 k1 l0 l1 (wrap64 (x5_1 + 1)))) = some r := H
    have A4 := Aside0.mk A40
    clear A40
    by_cases c5 : t226 = true
    ·subst c5
     have H1 : (some x5_1) = some r := by rw [if_pos rfl] at H; exact H
     clear H
     have H := H1
     clear H1
     obtain rfl := Option.some.inj H
     go_wp2_with (first | ((with_reducible refine gate_callee (f := 154) rfl ?_); refine goesL_ (some 14) rfl rfl Try.func154 (by kernel_rfl) rfl #[.agg #[.int .i64 x5_1, .int .i64 3, .slice A0 l0.length c0, .slice A1 l1.length c1]] rfl Bc_4 ?_; (with_reducible refine (spec_SeqOk.calls k1 x5_1 3 _ _ l0 _ _ l1 true _ ?side1 ?side2 ?side3 ?side4 A4.out).mono ?_); (case side1 => repeat (first | exact (Kd.C_below HR0.out HB.out) | (with_reducible refine Kd.C_alloc ?_ _) | (with_reducible refine Kd.C_drewN ?_ _) | (with_reducible refine Kd.C_drew ?_))); (case side2 => exact HC0.out); (case side3 => repeat (first | exact (Kd.C_below HR1.out HB.out) | (with_reducible refine Kd.C_alloc ?_ _) | (with_reducible refine Kd.C_drewN ?_ _) | (with_reducible refine Kd.C_drew ?_))); (case side4 => exact HC1.out); rintro e w6 ⟨rfl, hb⟩; refine ⟨_, rfl, ?_⟩; have n0_ := Aside0.mk (below_step Bc_7 hb); clear HB; have HB := n0_; clear n0_; (try clear hb); (try clear hb2); (try clear hk); (try clear hi)))
     go_ret
     exact ⟨by first | rfl | (simp [errW_none, errW_some] <;> rfl) | (simp [*, errW_none, errW_some] <;> rfl), by repeat (first | (with_reducible first | exact HB.out | apply below_alloc | apply pw_below_drewN | apply below_drew1) | exact HB.out)⟩
    ·replace c5 := Bool.eq_false_iff.mpr c5
     subst c5
     have H1 : (spec_LevelFor.l0 k1 l0 l1 (wrap64 (x5_1 + 1))) = some r := by rw [if_neg (show ¬ (false = true) by decide)] at H; exact H
     clear H
     have H := H1
     clear H1
     have H' := Aside0.mk H
     clear H
     go_wp2_with (first | ((with_reducible refine gate_callee (f := 154) rfl ?_); refine goesL_ (some 14) rfl rfl Try.func154 (by kernel_rfl) rfl #[.agg #[.int .i64 x5_1, .int .i64 3, .slice A0 l0.length c0, .slice A1 l1.length c1]] rfl Bc_4 ?_; (with_reducible refine (spec_SeqOk.calls k1 x5_1 3 _ _ l0 _ _ l1 false _ ?side1 ?side2 ?side3 ?side4 A4.out).mono ?_); (case side1 => repeat (first | exact (Kd.C_below HR0.out HB.out) | (with_reducible refine Kd.C_alloc ?_ _) | (with_reducible refine Kd.C_drewN ?_ _) | (with_reducible refine Kd.C_drew ?_))); (case side2 => exact HC0.out); (case side3 => repeat (first | exact (Kd.C_below HR1.out HB.out) | (with_reducible refine Kd.C_alloc ?_ _) | (with_reducible refine Kd.C_drewN ?_ _) | (with_reducible refine Kd.C_drew ?_))); (case side4 => exact HC1.out); rintro e w7 ⟨rfl, hb⟩; refine ⟨_, rfl, ?_⟩; have n0_ := Aside0.mk (below_step Bc_7 hb); clear HB; have HB := n0_; clear n0_; (try clear hb); (try clear hb2); (try clear hk); (try clear hi)))
     go_roundg k1
     case measure => have := HK1.out; omega
     case rel => exact ⟨(wrap64 (x5_1 + 1)), Bc_18, H', ⟨by have := HK1.out; omega⟩, ⟨by repeat (first | (with_reducible first | exact HB.out | apply below_alloc | apply pw_below_drewN | apply below_drew1) | exact HB.out)⟩⟩
   ·rw [if_neg c3] at H
    have c3b0 : decide (x5_1 ≤ 3) = false := decide_eq_false c3
    clear c3
    obtain rfl := Option.some.inj H
    go_wp2
    go_ret
    exact ⟨by first | rfl | (simp [errW_none, errW_some] <;> rfl) | (simp [*, errW_none, errW_some] <;> rfl), by repeat (first | (with_reducible first | exact HB.out | apply below_alloc | apply pw_below_drewN | apply below_drew1) | exact HB.out)⟩
end Go.Proofs.Ytjmhhgnknjfnlaa.PFnExactReadLayout
namespace Go.Proofs.Ytjmhhgnknjfnlaa.PFnExactReadLayout
open Go.RowKit Go.Proofs.YtjmhhgnknjfnlaaW.PrintWords Go.Proofs.YtjmhhgnknjfnlaaW.PrintLast Go.Proofs.YtjmhhgnknjfnlaaW.PrintMore
attribute [local go_sem] max2_int min2_int max_two min_two max_three min_three max_four min_four
set_option linter.unusedVariables false
set_option linter.unusedSimpArgs false
mutual
def spec_LayoutOk.j0 : Nat → Bool → List Int → List Int → List Int → Option (Bool)
 | 0, _, _, _, _ => none
 | k + 1, x23, x228000, x228001, x228002 => if x23 = true then (some false) else (spec_LayoutOk.l0 k 0 x228000 x228001 x228002)
def spec_LayoutOk.l0 : Nat → Int → List Int → List Int → List Int → Option (Bool)
 | 0, _, _, _, _ => none
 | k + 1, x3, x228000, x228001, x228002 => if x3 < (x228002.length : Int) then (if 0 ≤ x3 then ((spec_l01In.f (rd x228002 x3) (-1) 5).bind fun t230 => (if t230 = true then (spec_LayoutOk.l1 k x3 0 x228000 x228001 x228002) else (some false))) else (none)) else (some true)
def spec_LayoutOk.l1 : Nat → Int → Int → List Int → List Int → List Int → Option (Bool)
 | 0, _, _, _, _, _ => none
 | k + 1, x3, x4, x228000, x228001, x228002 => if x4 < x3 then (if 0 ≤ x3 then (if x3 < (x228002.length : Int) then (if (rd x228002 x3) ≥ 0 then (if 0 ≤ x4 then (if x4 < (x228002.length : Int) then (if (rd x228002 x4) = (rd x228002 x3) then (some false) else (spec_LayoutOk.l1 k x3 (wrap64 (x4 + 1)) x228000 x228001 x228002)) else (none)) else (none)) else (spec_LayoutOk.l1 k x3 (wrap64 (x4 + 1)) x228000 x228001 x228002)) else (none)) else (none)) else (spec_LayoutOk.l0 k (wrap64 (x3 + 1)) x228000 x228001 x228002)
end
def spec_LayoutOk.f (k : Nat) (l0_0 : List Int) (l0_1 : List Int) (l0_2 : List Int) : Option (Bool) := (spec_LevelFor.f k l0_0 l0_1).bind fun t228 => (if t228 = 0 then (spec_LayoutOk.j0 k true l0_0 l0_1 l0_2) else (spec_LayoutOk.j0 k ((l0_2.length : Int) != (wrap64 ((l0_0.length : Int) * (l0_1.length : Int)))) l0_0 l0_1 l0_2))
theorem spec_LayoutOk.mono_l : ∀ k, (∀ y0 y1 y2 y3, LeO (spec_LayoutOk.j0 k y0 y1 y2 y3) (spec_LayoutOk.j0 (k + 1) y0 y1 y2 y3)) ∧ (∀ y0 y1 y2 y3, LeO (spec_LayoutOk.l0 k y0 y1 y2 y3) (spec_LayoutOk.l0 (k + 1) y0 y1 y2 y3)) ∧ (∀ y0 y1 y2 y3 y4, LeO (spec_LayoutOk.l1 k y0 y1 y2 y3 y4) (spec_LayoutOk.l1 (k + 1) y0 y1 y2 y3 y4))
 | 0 => ⟨fun _ _ _ _ r h => by simp [spec_LayoutOk.j0] at h, fun _ _ _ _ r h => by simp [spec_LayoutOk.l0] at h, fun _ _ _ _ _ r h => by simp [spec_LayoutOk.l1] at h⟩
 | k + 1 => by
  obtain ⟨ih0, ih1, ih2⟩ := spec_LayoutOk.mono_l k
  refine ⟨?_, ?_, ?_⟩
  ·intro y0 y1 y2 y3
   unfold spec_LayoutOk.j0
   repeat' first
   | (with_reducible exact ih0 _ _ _ _)
   | (with_reducible exact ih1 _ _ _ _)
   | (with_reducible exact ih2 _ _ _ _ _)
   | (with_reducible exact spec_LevelFor.mono _ _ _)
   | (with_reducible exact LeO.refl _)
   | (with_reducible exact LeO.none _)
   | (with_reducible refine LeO.ite ?_ ?_)
   | (with_reducible refine LeO.bind ?_ (fun _ => ?_))
   | exact ih0 _ _ _ _
   | exact ih1 _ _ _ _
   | exact ih2 _ _ _ _ _
   | exact spec_LevelFor.mono _ _ _
   | exact LeO.none _
   | refine LeO.ite ?_ ?_
   | refine LeO.bind ?_ (fun _ => ?_)
  ·intro y0 y1 y2 y3
   unfold spec_LayoutOk.l0
   repeat' first
   | (with_reducible exact ih0 _ _ _ _)
   | (with_reducible exact ih1 _ _ _ _)
   | (with_reducible exact ih2 _ _ _ _ _)
   | (with_reducible exact spec_LevelFor.mono _ _ _)
   | (with_reducible exact LeO.refl _)
   | (with_reducible exact LeO.none _)
   | (with_reducible refine LeO.ite ?_ ?_)
   | (with_reducible refine LeO.bind ?_ (fun _ => ?_))
   | exact ih0 _ _ _ _
   | exact ih1 _ _ _ _
   | exact ih2 _ _ _ _ _
   | exact spec_LevelFor.mono _ _ _
   | exact LeO.none _
   | refine LeO.ite ?_ ?_
   | refine LeO.bind ?_ (fun _ => ?_)
  ·intro y0 y1 y2 y3 y4
   unfold spec_LayoutOk.l1
   repeat' first
   | (with_reducible exact ih0 _ _ _ _)
   | (with_reducible exact ih1 _ _ _ _)
   | (with_reducible exact ih2 _ _ _ _ _)
   | (with_reducible exact spec_LevelFor.mono _ _ _)
   | (with_reducible exact LeO.refl _)
   | (with_reducible exact LeO.none _)
   | (with_reducible refine LeO.ite ?_ ?_)
   | (with_reducible refine LeO.bind ?_ (fun _ => ?_))
   | exact ih0 _ _ _ _
   | exact ih1 _ _ _ _
   | exact ih2 _ _ _ _ _
   | exact spec_LevelFor.mono _ _ _
   | exact LeO.none _
   | refine LeO.ite ?_ ?_
   | refine LeO.bind ?_ (fun _ => ?_)
theorem spec_LayoutOk.mono : ∀ a0 a1 a2 k, LeO (spec_LayoutOk.f k a0 a1 a2) (spec_LayoutOk.f (k + 1) a0 a1 a2) := by
 intro a0 a1 a2 k
 obtain ⟨ih0, ih1, ih2⟩ := spec_LayoutOk.mono_l k
 unfold spec_LayoutOk.f
 repeat' first
   | (with_reducible exact ih0 _ _ _ _)
   | (with_reducible exact ih1 _ _ _ _)
   | (with_reducible exact ih2 _ _ _ _ _)
   | (with_reducible exact spec_LevelFor.mono _ _ _)
   | (with_reducible exact LeO.refl _)
   | (with_reducible exact LeO.none _)
   | (with_reducible refine LeO.ite ?_ ?_)
   | (with_reducible refine LeO.bind ?_ (fun _ => ?_))
   | exact ih0 _ _ _ _
   | exact ih1 _ _ _ _
   | exact ih2 _ _ _ _ _
   | exact spec_LevelFor.mono _ _ _
   | exact LeO.none _
   | refine LeO.ite ?_ ?_
   | refine LeO.bind ?_ (fun _ => ?_)
set_option maxHeartbeats 8000000 in
set_option maxRecDepth 100000 in
theorem spec_LayoutOk.calls (k : Nat) (A0_0 : Option Addr) (c0_0 : Nat) (l0_0 : List Int) (A0_1 : Option Addr) (c0_1 : Nat) (l0_1 : List Int) (A0_2 : Option Addr) (c0_2 : Nat) (l0_2 : List Int) (r : Bool) (w : World) (hr0_0 : Kd.C (Kd.int .i64) w A0_0 l0_0.length l0_0) (hc0_0 : l0_0.length ≤ c0_0) (hr0_1 : Kd.C (Kd.int .i64) w A0_1 l0_1.length l0_1) (hc0_1 : l0_1.length ≤ c0_1) (hr0_2 : Kd.C (Kd.int .i64) w A0_2 l0_2.length l0_2) (hc0_2 : l0_2.length ≤ c0_2) (h : spec_LayoutOk.f k l0_0 l0_1 l0_2 = some r) :
  Calls Try.prog 143 #[.agg #[.slice A0_0 l0_0.length c0_0, .slice A0_1 l0_1.length c0_1, .slice A0_2 l0_2.length c0_2]] w fun e w' => e = .returned (.bool r) ∧ Below w.heap.size w w' := by
 have hu39 := Try.underlying39
 have HR0_0 := Aside0.mk hr0_0
 have HC0_0 := Aside0.mk hc0_0
 clear hr0_0 hc0_0
 have HR0_1 := Aside0.mk hr0_1
 have HC0_1 := Aside0.mk hc0_1
 clear hr0_1 hc0_1
 have HR0_2 := Aside0.mk hr0_2
 have HC0_2 := Aside0.mk hc0_2
 clear hr0_2 hc0_2
 have HB := Aside0.mk (Below.refl w.heap.size w)
 have H : ((spec_LevelFor.f k l0_0 l0_1).bind fun t228 => (if t228 = 0 then (spec_LayoutOk.j0 k true l0_0 l0_1 l0_2) else (spec_LayoutOk.j0 k ((l0_2.length : Int) != (wrap64 ((l0_0.length : Int) * (l0_1.length : Int)))) l0_0 l0_1 l0_2))) = some r := h
 clear h
 have HC2 := Aside0.mk H
 clear H
 go_enter Try.func143, Try.ntmps143
 go_upto_region 1 with (first | ((with_reducible refine gate_dst (N := 1) rfl ?_); (try (refine gate_guard (by rfl) ?_; dsimp only)); refine box_event ?hg (N := 1) ?hd (cs := #[.slice A0_0 l0_0.length c0_0, .slice A0_1 l0_1.length c0_1, .slice A0_2 l0_2.length c0_2]) (t := 39) ?hr ?_; (case hd => rfl); (case hg => rfl); (case hr => first | (go_simp; done) | (go_simp; rfl)); intro gb227 hg w3 hbox hb; have n0_ := Aside0.mk (below_step Bc_7 hb); have n1_ := Aside0.mk (hbox); have n2_ := Aside0.mk ((by rw [hg]; exact (below_size Bc_7) : w.heap.size ≤ gb227)); have n3_ := Aside0.mk ((by rw [hg]; exact (below_size Bc_7) : w.heap.size ≤ gb227)); clear HB; have HB := n0_; have BK227 := n1_; have GW227 := n2_; have GE227 := n3_; clear n0_ n1_ n2_ n3_; clear hb hbox hg))
 repeat (go_quiet (first | ((with_reducible refine gate_dst (N := 1) rfl ?_); (try (refine gate_guard (by rfl) ?_; dsimp only)); refine box_event ?hg (N := 1) ?hd (cs := #[.slice A0_0 l0_0.length c0_0, .slice A0_1 l0_1.length c0_1, .slice A0_2 l0_2.length c0_2]) (t := 39) ?hr ?_; (case hd => rfl); (case hg => rfl); (case hr => first | (go_simp; done) | (go_simp; rfl)); intro gb227 hg w3 hbox hb; have n0_ := Aside0.mk (below_step Bc_7 hb); have n1_ := Aside0.mk (hbox); have n2_ := Aside0.mk ((by rw [hg]; exact (below_size Bc_7) : w.heap.size ≤ gb227)); have n3_ := Aside0.mk ((by rw [hg]; exact (below_size Bc_7) : w.heap.size ≤ gb227)); clear HB; have HB := n0_; have BK227 := n1_; have GW227 := n2_; have GE227 := n3_; clear n0_ n1_ n2_ n3_; clear hb hbox hg)); go_upto_region 1 with (first | ((with_reducible refine gate_dst (N := 1) rfl ?_); (try (refine gate_guard (by rfl) ?_; dsimp only)); refine box_event ?hg (N := 1) ?hd (cs := #[.slice A0_0 l0_0.length c0_0, .slice A0_1 l0_1.length c0_1, .slice A0_2 l0_2.length c0_2]) (t := 39) ?hr ?_; (case hd => rfl); (case hg => rfl); (case hr => first | (go_simp; done) | (go_simp; rfl)); intro gb227 hg w3 hbox hb; have n0_ := Aside0.mk (below_step Bc_7 hb); have n1_ := Aside0.mk (hbox); have n2_ := Aside0.mk ((by rw [hg]; exact (below_size Bc_7) : w.heap.size ≤ gb227)); have n3_ := Aside0.mk ((by rw [hg]; exact (below_size Bc_7) : w.heap.size ≤ gb227)); clear HB; have HB := n0_; have BK227 := n1_; have GW227 := n2_; have GE227 := n3_; clear n0_ n1_ n2_ n3_; clear hb hbox hg)))
 (try simp only [Act.put, List.setIfInBounds_toArray, List.set_cons_zero, List.set_cons_succ])
 go_cut [23] (fun v23 wc => ∃ (kq : Nat) (x23_1 : Bool), v23 = .bool x23_1 ∧ Aside0 (spec_LayoutOk.j0 kq x23_1 l0_0 l0_1 l0_2 = some r) ∧ Aside0 (kq ≤ k) ∧ Aside0 (wc.heap[gb227]? = some (.cells #[(.slice A0_0 l0_0.length c0_0), (.slice A0_1 l0_1.length c0_1), (.slice A0_2 l0_2.length c0_2)] 39 (0, 0))) ∧ Aside0 (Below w.heap.size w wc))
 case first =>
  have H := HC2.out
  clear HC2
  replace H := Option.bind_eq_some_iff.mp H
  obtain ⟨t228, A40, H⟩ := H
  replace H : (if t228 = 0 then (spec_LayoutOk.j0 k true l0_0 l0_1 l0_2) else (spec_LayoutOk.j0 k ((l0_2.length : Int) != (wrap64 ((l0_0.length : Int) * (l0_1.length : Int)))) l0_0 l0_1 l0_2)) = some r := H
  have A4 := Aside0.mk A40
  clear A40
  by_cases c5 : t228 = 0
  ·rw [if_pos c5] at H
   have c5b0 : (t228 == 0) = true := beq_iff_eq.mpr c5
   have c5b1 : (t228 != 0) = false := bne_eq_false_iff_eq.mpr c5
   clear c5
   (first | rw [c5b0] | (simp only [i64_w, i32_w]; rw [c5b0]) | skip)
   have H' := Aside0.mk H
   clear H
   have hcz6_0 : w3.cell? ⟨gb227, 0, none⟩ = some (.slice A0_0 l0_0.length c0_0) := (blk_cell BK227.out 0).trans rfl
   have hcz6_1 : w3.cell? ⟨gb227, 1, none⟩ = some (.slice A0_1 l0_1.length c0_1) := (blk_cell BK227.out 1).trans rfl
   have hcz6_2 : w3.cell? ⟨gb227, 2, none⟩ = some (.slice A0_2 l0_2.length c0_2) := (blk_cell BK227.out 2).trans rfl
   have hfz6_0 := blk_frozen BK227.out 0
   have hfz6_1 := blk_frozen BK227.out 1
   have hfz6_2 := blk_frozen BK227.out 2
   go_wp2_with (first | (go_at_call 145; (with_reducible refine (spec_LevelFor.calls k _ _ l0_0 _ _ l0_1 t228 _ ?side1 ?side2 ?side3 ?side4 A4.out).mono ?_); (case side1 => repeat (first | exact (Kd.C_below HR0_0.out HB.out) | (with_reducible refine Kd.C_alloc ?_ _) | (with_reducible refine Kd.C_drewN ?_ _) | (with_reducible refine Kd.C_drew ?_))); (case side2 => exact HC0_0.out); (case side3 => repeat (first | exact (Kd.C_below HR0_1.out HB.out) | (with_reducible refine Kd.C_alloc ?_ _) | (with_reducible refine Kd.C_drewN ?_ _) | (with_reducible refine Kd.C_drew ?_))); (case side4 => exact HC0_1.out); rintro e w7 ⟨rfl, hb⟩; have n0_ := Aside0.mk (blk_below (g := gb227) (o := .cells #[.slice A0_0 l0_0.length c0_0, .slice A0_1 l0_1.length c0_1, .slice A0_2 l0_2.length c0_2] 39 (0, 0)) Bc_20 hb); have n1_ := Aside0.mk (below_step Bc_17 hb); clear BK227; clear HB; have BK227 := n0_; have HB := n1_; clear n0_ n1_; (try clear hb); (try clear hb2); (try clear hk); (try clear hi)))
   repeat (go_quiet (first | (go_at_call 145; (with_reducible refine (spec_LevelFor.calls k _ _ l0_0 _ _ l0_1 t228 _ ?side1 ?side2 ?side3 ?side4 A4.out).mono ?_); (case side1 => repeat (first | exact (Kd.C_below HR0_0.out HB.out) | (with_reducible refine Kd.C_alloc ?_ _) | (with_reducible refine Kd.C_drewN ?_ _) | (with_reducible refine Kd.C_drew ?_))); (case side2 => exact HC0_0.out); (case side3 => repeat (first | exact (Kd.C_below HR0_1.out HB.out) | (with_reducible refine Kd.C_alloc ?_ _) | (with_reducible refine Kd.C_drewN ?_ _) | (with_reducible refine Kd.C_drew ?_))); (case side4 => exact HC0_1.out); rintro e w7 ⟨rfl, hb⟩; have n0_ := Aside0.mk (blk_below (g := gb227) (o := .cells #[.slice A0_0 l0_0.length c0_0, .slice A0_1 l0_1.length c0_1, .slice A0_2 l0_2.length c0_2] 39 (0, 0)) Bc_20 hb); have n1_ := Aside0.mk (below_step Bc_17 hb); clear BK227; clear HB; have BK227 := n0_; have HB := n1_; clear n0_ n1_; (try clear hb); (try clear hb2); (try clear hk); (try clear hi))); try go_wp2_with (first | (go_at_call 145; (with_reducible refine (spec_LevelFor.calls k _ _ l0_0 _ _ l0_1 t228 _ ?side1 ?side2 ?side3 ?side4 A4.out).mono ?_); (case side1 => repeat (first | exact (Kd.C_below HR0_0.out HB.out) | (with_reducible refine Kd.C_alloc ?_ _) | (with_reducible refine Kd.C_drewN ?_ _) | (with_reducible refine Kd.C_drew ?_))); (case side2 => exact HC0_0.out); (case side3 => repeat (first | exact (Kd.C_below HR0_1.out HB.out) | (with_reducible refine Kd.C_alloc ?_ _) | (with_reducible refine Kd.C_drewN ?_ _) | (with_reducible refine Kd.C_drew ?_))); (case side4 => exact HC0_1.out); rintro e w7 ⟨rfl, hb⟩; have n0_ := Aside0.mk (blk_below (g := gb227) (o := .cells #[.slice A0_0 l0_0.length c0_0, .slice A0_1 l0_1.length c0_1, .slice A0_2 l0_2.length c0_2] 39 (0, 0)) Bc_20 hb); have n1_ := Aside0.mk (below_step Bc_17 hb); clear BK227; clear HB; have BK227 := n0_; have HB := n1_; clear n0_ n1_; (try clear hb); (try clear hb2); (try clear hk); (try clear hi))))
   go_meet
   case rel => exact ⟨_, (true), Bc_18, H', ⟨by first | omega | exact Nat.le_refl _⟩, ⟨by (with_reducible repeat (first | refine blk_drewN ?_ _ | refine blk_drew ?_ | refine blk_alloc ?_ _)); exact BK227.out⟩, ⟨by repeat (first | (with_reducible first | exact HB.out | apply below_alloc | apply pw_below_drewN | apply below_drew1 | refine below_set ?_ GE227.out) | exact HB.out)⟩⟩
  ·rw [if_neg c5] at H
   have c5b0 : (t228 == 0) = false := beq_eq_false_iff_ne.mpr c5
   have c5b1 : (t228 != 0) = true := bne_iff_ne.mpr c5
   (first | rw [c5b0] | (simp only [i64_w, i32_w]; rw [c5b0]) | skip)
   have H' := Aside0.mk H
   clear H
   have hcz8_0 : w3.cell? ⟨gb227, 0, none⟩ = some (.slice A0_0 l0_0.length c0_0) := (blk_cell BK227.out 0).trans rfl
   have hcz8_1 : w3.cell? ⟨gb227, 1, none⟩ = some (.slice A0_1 l0_1.length c0_1) := (blk_cell BK227.out 1).trans rfl
   have hcz8_2 : w3.cell? ⟨gb227, 2, none⟩ = some (.slice A0_2 l0_2.length c0_2) := (blk_cell BK227.out 2).trans rfl
   have hfz8_0 := blk_frozen BK227.out 0
   have hfz8_1 := blk_frozen BK227.out 1
   have hfz8_2 := blk_frozen BK227.out 2
   go_wp2_with (first | (go_at_call 145; (with_reducible refine (spec_LevelFor.calls k _ _ l0_0 _ _ l0_1 t228 _ ?side1 ?side2 ?side3 ?side4 A4.out).mono ?_); (case side1 => repeat (first | exact (Kd.C_below HR0_0.out HB.out) | (with_reducible refine Kd.C_alloc ?_ _) | (with_reducible refine Kd.C_drewN ?_ _) | (with_reducible refine Kd.C_drew ?_))); (case side2 => exact HC0_0.out); (case side3 => repeat (first | exact (Kd.C_below HR0_1.out HB.out) | (with_reducible refine Kd.C_alloc ?_ _) | (with_reducible refine Kd.C_drewN ?_ _) | (with_reducible refine Kd.C_drew ?_))); (case side4 => exact HC0_1.out); rintro e w9 ⟨rfl, hb⟩; have n0_ := Aside0.mk (blk_below (g := gb227) (o := .cells #[.slice A0_0 l0_0.length c0_0, .slice A0_1 l0_1.length c0_1, .slice A0_2 l0_2.length c0_2] 39 (0, 0)) Bc_20 hb); have n1_ := Aside0.mk (below_step Bc_17 hb); clear BK227; clear HB; have BK227 := n0_; have HB := n1_; clear n0_ n1_; (try clear hb); (try clear hb2); (try clear hk); (try clear hi); have hcz10_0 : w9.cell? ⟨gb227, 0, none⟩ = some (.slice A0_0 l0_0.length c0_0) := (blk_cell BK227.out 0).trans rfl; have hcz10_1 : w9.cell? ⟨gb227, 1, none⟩ = some (.slice A0_1 l0_1.length c0_1) := (blk_cell BK227.out 1).trans rfl; have hcz10_2 : w9.cell? ⟨gb227, 2, none⟩ = some (.slice A0_2 l0_2.length c0_2) := (blk_cell BK227.out 2).trans rfl; have hfz10_0 := blk_frozen BK227.out 0; have hfz10_1 := blk_frozen BK227.out 1; have hfz10_2 := blk_frozen BK227.out 2))
   repeat (go_quiet (first | (go_at_call 145; (with_reducible refine (spec_LevelFor.calls k _ _ l0_0 _ _ l0_1 t228 _ ?side1 ?side2 ?side3 ?side4 A4.out).mono ?_); (case side1 => repeat (first | exact (Kd.C_below HR0_0.out HB.out) | (with_reducible refine Kd.C_alloc ?_ _) | (with_reducible refine Kd.C_drewN ?_ _) | (with_reducible refine Kd.C_drew ?_))); (case side2 => exact HC0_0.out); (case side3 => repeat (first | exact (Kd.C_below HR0_1.out HB.out) | (with_reducible refine Kd.C_alloc ?_ _) | (with_reducible refine Kd.C_drewN ?_ _) | (with_reducible refine Kd.C_drew ?_))); (case side4 => exact HC0_1.out); rintro e w9 ⟨rfl, hb⟩; have n0_ := Aside0.mk (blk_below (g := gb227) (o := .cells #[.slice A0_0 l0_0.length c0_0, .slice A0_1 l0_1.length c0_1, .slice A0_2 l0_2.length c0_2] 39 (0, 0)) Bc_20 hb); have n1_ := Aside0.mk (below_step Bc_17 hb); clear BK227; clear HB; have BK227 := n0_; have HB := n1_; clear n0_ n1_; (try clear hb); (try clear hb2); (try clear hk); (try clear hi); have hcz10_0 : w9.cell? ⟨gb227, 0, none⟩ = some (.slice A0_0 l0_0.length c0_0) := (blk_cell BK227.out 0).trans rfl; have hcz10_1 : w9.cell? ⟨gb227, 1, none⟩ = some (.slice A0_1 l0_1.length c0_1) := (blk_cell BK227.out 1).trans rfl; have hcz10_2 : w9.cell? ⟨gb227, 2, none⟩ = some (.slice A0_2 l0_2.length c0_2) := (blk_cell BK227.out 2).trans rfl; have hfz10_0 := blk_frozen BK227.out 0; have hfz10_1 := blk_frozen BK227.out 1; have hfz10_2 := blk_frozen BK227.out 2)); try go_wp2_with (first | (go_at_call 145; (with_reducible refine (spec_LevelFor.calls k _ _ l0_0 _ _ l0_1 t228 _ ?side1 ?side2 ?side3 ?side4 A4.out).mono ?_); (case side1 => repeat (first | exact (Kd.C_below HR0_0.out HB.out) | (with_reducible refine Kd.C_alloc ?_ _) | (with_reducible refine Kd.C_drewN ?_ _) | (with_reducible refine Kd.C_drew ?_))); (case side2 => exact HC0_0.out); (case side3 => repeat (first | exact (Kd.C_below HR0_1.out HB.out) | (with_reducible refine Kd.C_alloc ?_ _) | (with_reducible refine Kd.C_drewN ?_ _) | (with_reducible refine Kd.C_drew ?_))); (case side4 => exact HC0_1.out); rintro e w9 ⟨rfl, hb⟩; have n0_ := Aside0.mk (blk_below (g := gb227) (o := .cells #[.slice A0_0 l0_0.length c0_0, .slice A0_1 l0_1.length c0_1, .slice A0_2 l0_2.length c0_2] 39 (0, 0)) Bc_20 hb); have n1_ := Aside0.mk (below_step Bc_17 hb); clear BK227; clear HB; have BK227 := n0_; have HB := n1_; clear n0_ n1_; (try clear hb); (try clear hb2); (try clear hk); (try clear hi); have hcz10_0 : w9.cell? ⟨gb227, 0, none⟩ = some (.slice A0_0 l0_0.length c0_0) := (blk_cell BK227.out 0).trans rfl; have hcz10_1 : w9.cell? ⟨gb227, 1, none⟩ = some (.slice A0_1 l0_1.length c0_1) := (blk_cell BK227.out 1).trans rfl; have hcz10_2 : w9.cell? ⟨gb227, 2, none⟩ = some (.slice A0_2 l0_2.length c0_2) := (blk_cell BK227.out 2).trans rfl; have hfz10_0 := blk_frozen BK227.out 0; have hfz10_1 := blk_frozen BK227.out 1; have hfz10_2 := blk_frozen BK227.out 2)))
   go_meet
   case rel => exact ⟨_, (((l0_2.length : Int) != (wrap64 ((l0_0.length : Int) * (l0_1.length : Int))))), Bc_18, H', ⟨by first | omega | exact Nat.le_refl _⟩, ⟨by (with_reducible repeat (first | refine blk_drewN ?_ _ | refine blk_drew ?_ | refine blk_alloc ?_ _)); exact BK227.out⟩, ⟨by repeat (first | (with_reducible first | exact HB.out | apply below_alloc | apply pw_below_drewN | apply below_drew1 | refine below_set ?_ GE227.out) | exact HB.out)⟩⟩
 case rest =>
  clear HC2
  try clear c1; try clear p2; try clear c5; try clear c5b0; try clear c5b1; try clear p6; try clear hcz10_0; try clear hcz10_1; try clear hcz10_2; try clear hcz6_0; try clear hcz6_1; try clear hcz6_2; try clear hcz8_0; try clear hcz8_1; try clear hcz8_2; try clear hfz10_0; try clear hfz10_1; try clear hfz10_2; try clear hfz6_0; try clear hfz6_1; try clear hfz6_2; try clear hfz8_0; try clear hfz8_1; try clear hfz8_2
  obtain ⟨kq, x23_1, rfl, HA, HJ1, BK227, HB⟩ := hcut
  cases kq with
  | zero => exact absurd HA.out (by simp [spec_LayoutOk.j0])
  | succ kj1 =>
   have H := HA.out
   clear HA
   simp only [spec_LayoutOk.j0] at H
   by_cases c11 : x23_1 = true
   ·subst c11
    have H1 : (some false) = some r := by rw [if_pos rfl] at H; exact H
    clear H
    have H := H1
    clear H1
    obtain rfl := Option.some.inj H
    go_wp2
    repeat (go_quiet (fail); try go_wp2)
    go_ret
    exact ⟨by first | rfl | (simp [errW_none, errW_some] <;> rfl) | (simp [*, errW_none, errW_some] <;> rfl), by repeat (first | (with_reducible first | exact HB.out | apply below_alloc | apply pw_below_drewN | apply below_drew1 | refine below_set ?_ GE227.out) | exact HB.out)⟩
   ·replace c11 := Bool.eq_false_iff.mpr c11
    subst c11
    have H1 : (spec_LayoutOk.l0 kj1 0 l0_0 l0_1 l0_2) = some r := by rw [if_neg (show ¬ (false = true) by decide)] at H; exact H
    clear H
    have H := H1
    clear H1
    have H' := Aside0.mk H
    clear H
    go_wp2
    repeat (go_quiet (fail); try go_wp2)
    go_loopg [3] kj1 (fun kq v3 w' => ∃ (x3_2 : Int), v3 = .int .i64 x3_2 ∧ Aside0 (spec_LayoutOk.l0 kq x3_2 l0_0 l0_1 l0_2 = some r) ∧ Aside0 (kq ≤ kj1) ∧ Aside0 (w'.heap[gb227]? = some (.cells #[(.slice A0_0 l0_0.length c0_0), (.slice A0_1 l0_1.length c0_1), (.slice A0_2 l0_2.length c0_2)] 39 (0, 0))) ∧ Aside0 (Below w.heap.size w w'))
    case atStart => exact ⟨(0), Bc_18, H', ⟨Nat.le_refl _⟩, ⟨by (with_reducible repeat (first | refine blk_drewN ?_ _ | refine blk_drew ?_ | refine blk_alloc ?_ _)); exact BK227.out⟩, ⟨by repeat (first | (with_reducible first | exact HB.out | apply below_alloc | apply pw_below_drewN | apply below_drew1 | refine below_set ?_ GE227.out) | exact HB.out)⟩⟩
    case round =>
     clear H'
     try clear c1; try clear p2; try clear c5; try clear c5b0; try clear c5b1; try clear p6; try clear c11; try clear hcz10_0; try clear hcz10_1; try clear hcz10_2; try clear hcz6_0; try clear hcz6_1; try clear hcz6_2; try clear hcz8_0; try clear hcz8_1; try clear hcz8_2; try clear hfz10_0; try clear hfz10_1; try clear hfz10_2; try clear hfz6_0; try clear hfz6_1; try clear hfz6_2; try clear hfz8_0; try clear hfz8_1; try clear hfz8_2; try clear p2; try clear p6
     obtain ⟨x3_2, rfl, HA, HK2, BK227, HB⟩ := hrel
     cases gk with
     | zero => exact absurd HA.out (by simp [spec_LayoutOk.l0])
     | succ k2 =>
      have H := HA.out
      clear HA
      simp only [spec_LayoutOk.l0] at H
      by_cases c12 : x3_2 < (l0_2.length : Int)
      ·rw [if_pos c12] at H
       have c12b0 : decide (x3_2 < (l0_2.length : Int)) = true := decide_eq_true c12
       clear c12
       by_cases c13 : 0 ≤ x3_2
       ·rw [if_pos c13] at H
        have c13b0 : decide (0 ≤ x3_2) = true := decide_eq_true c13
        clear c13
        replace H := Option.bind_eq_some_iff.mp H
        obtain ⟨t230, A140, H⟩ := H
        replace H : (if t230 = true then (spec_LayoutOk.l1 k2 x3_2 0 l0_0 l0_1 l0_2) else (some false)) = some r := H
        have A14 := Aside0.mk A140
        clear A140
        by_cases c15 : t230 = true
        ·subst c15
         have H1 : (spec_LayoutOk.l1 k2 x3_2 0 l0_0 l0_1 l0_2) = some r := by rw [if_pos rfl] at H; exact H
         clear H
         have H := H1
         clear H1
         have H' := Aside0.mk H
         clear H
         have hcz16_0 : wr.cell? ⟨gb227, 0, none⟩ = some (.slice A0_0 l0_0.length c0_0) := (blk_cell BK227.out 0).trans rfl
         have hcz16_1 : wr.cell? ⟨gb227, 1, none⟩ = some (.slice A0_1 l0_1.length c0_1) := (blk_cell BK227.out 1).trans rfl
         have hcz16_2 : wr.cell? ⟨gb227, 2, none⟩ = some (.slice A0_2 l0_2.length c0_2) := (blk_cell BK227.out 2).trans rfl
         have hfz16_0 := blk_frozen BK227.out 0
         have hfz16_1 := blk_frozen BK227.out 1
         have hfz16_2 := blk_frozen BK227.out 2
         have p229 : 0 ≤ (x3_2 : Int) := of_decide_eq_true Bc_11
         have q229 : x3_2 < (l0_2.length : Int) := of_decide_eq_true Bc_11
         obtain ⟨ad229, e229, hx229_0⟩ := Kd.at_int HR0_2.out x3_2 p229 q229
         cases e229
         replace hx229_0 := (HB.out.cell (World.block_lt_of_cell? w _ hx229_0)).trans hx229_0
         replace p229 := eq_true p229
         replace q229 := eq_true q229
         go_wp2_with (first | (go_at_call 103; (with_reducible refine (spec_l01In.calls (rd l0_2 x3_2) (-1) 5 true _ A14.out).mono ?_); rintro e w' ⟨rfl, ⟨nd, rfl⟩⟩; (try first | exact ⟨rfl, _, World.drewN_drewN _ _ _⟩ | exact ⟨rfl, _, Eq.trans (World.drewN_drewN _ _ _) (congrArg (World.drewN _) (Nat.add_assoc _ _ _))⟩)))
         repeat (go_quiet (first | (go_at_call 103; (with_reducible refine (spec_l01In.calls (rd l0_2 x3_2) (-1) 5 true _ A14.out).mono ?_); rintro e w' ⟨rfl, ⟨nd, rfl⟩⟩; (try first | exact ⟨rfl, _, World.drewN_drewN _ _ _⟩ | exact ⟨rfl, _, Eq.trans (World.drewN_drewN _ _ _) (congrArg (World.drewN _) (Nat.add_assoc _ _ _))⟩))); try go_wp2_with (first | (go_at_call 103; (with_reducible refine (spec_l01In.calls (rd l0_2 x3_2) (-1) 5 true _ A14.out).mono ?_); rintro e w' ⟨rfl, ⟨nd, rfl⟩⟩; (try first | exact ⟨rfl, _, World.drewN_drewN _ _ _⟩ | exact ⟨rfl, _, Eq.trans (World.drewN_drewN _ _ _) (congrArg (World.drewN _) (Nat.add_assoc _ _ _))⟩))))
         go_loopg [4] k2 (fun kq v4 w' => ∃ (x4_3 : Int), v4 = .int .i64 x4_3 ∧ Aside0 (spec_LayoutOk.l1 kq x3_2 x4_3 l0_0 l0_1 l0_2 = some r) ∧ Aside0 (kq ≤ k2) ∧ Aside0 (w'.heap[gb227]? = some (.cells #[(.slice A0_0 l0_0.length c0_0), (.slice A0_1 l0_1.length c0_1), (.slice (some ad229) l0_2.length c0_2)] 39 (0, 0))) ∧ Aside0 (Below w.heap.size w w'))
         case atStart => exact ⟨(0), Bc_18, H', ⟨Nat.le_refl _⟩, ⟨by (with_reducible repeat (first | refine blk_drewN ?_ _ | refine blk_drew ?_ | refine blk_alloc ?_ _)); exact BK227.out⟩, ⟨by repeat (first | (with_reducible first | exact HB.out | apply below_alloc | apply pw_below_drewN | apply below_drew1 | refine below_set ?_ GE227.out) | exact HB.out)⟩⟩
         case round =>
          clear H'
          try clear c1; try clear p2; try clear q2; try clear hx2; try clear c5; try clear c5b0; try clear c5b1; try clear p6; try clear c11; try clear c12; try clear c12b0; try clear c13; try clear c13b0; try clear c14; try clear c15; try clear hcz10_0; try clear hcz10_1; try clear hcz10_2; try clear hcz16_0; try clear hcz16_1; try clear hcz16_2; try clear hcz6_0; try clear hcz6_1; try clear hcz6_2; try clear hcz8_0; try clear hcz8_1; try clear hcz8_2; try clear hfz10_0; try clear hfz10_1; try clear hfz10_2; try clear hfz16_0; try clear hfz16_1; try clear hfz16_2; try clear hfz6_0; try clear hfz6_1; try clear hfz6_2; try clear hfz8_0; try clear hfz8_1; try clear hfz8_2; try clear hx229_0; try clear p2; try clear p229; try clear p6; try clear q229
          obtain ⟨x4_3, rfl, HA, HK3, BK227, HB⟩ := hrel
          cases gk with
          | zero => exact absurd HA.out (by simp [spec_LayoutOk.l1])
          | succ k3 =>
           have H := HA.out
           clear HA
           simp only [spec_LayoutOk.l1] at H
           by_cases c17 : x4_3 < x3_2
           ·rw [if_pos c17] at H
            have c17b0 : decide (x4_3 < x3_2) = true := decide_eq_true c17
            clear c17
            by_cases c18 : 0 ≤ x3_2
            ·rw [if_pos c18] at H
             have c18b0 : decide (0 ≤ x3_2) = true := decide_eq_true c18
             clear c18
             by_cases c19 : x3_2 < (l0_2.length : Int)
             ·rw [if_pos c19] at H
              have c19b0 : decide (x3_2 < (l0_2.length : Int)) = true := decide_eq_true c19
              clear c19
              by_cases c20 : (rd l0_2 x3_2) ≥ 0
              ·rw [if_pos c20] at H
               have c20b0 : decide (0 ≤ (rd l0_2 x3_2)) = true := decide_eq_true c20
               clear c20
               by_cases c21 : 0 ≤ x4_3
               ·rw [if_pos c21] at H
                have c21b0 : decide (0 ≤ x4_3) = true := decide_eq_true c21
                clear c21
                by_cases c22 : x4_3 < (l0_2.length : Int)
                ·rw [if_pos c22] at H
                 have c22b0 : decide (x4_3 < (l0_2.length : Int)) = true := decide_eq_true c22
                 clear c22
                 by_cases c23 : (rd l0_2 x4_3) = (rd l0_2 x3_2)
                 ·rw [if_pos c23] at H
                  have c23b0 : ((rd l0_2 x4_3) == (rd l0_2 x3_2)) = true := beq_iff_eq.mpr c23
                  have c23b1 : ((rd l0_2 x4_3) != (rd l0_2 x3_2)) = false := bne_eq_false_iff_eq.mpr c23
                  clear c23
                  obtain rfl := Option.some.inj H
                  have hcz24_0 : wr.cell? ⟨gb227, 0, none⟩ = some (.slice A0_0 l0_0.length c0_0) := (blk_cell BK227.out 0).trans rfl
                  have hcz24_1 : wr.cell? ⟨gb227, 1, none⟩ = some (.slice A0_1 l0_1.length c0_1) := (blk_cell BK227.out 1).trans rfl
                  have hcz24_2 : wr.cell? ⟨gb227, 2, none⟩ = some (.slice (some ad229) l0_2.length c0_2) := (blk_cell BK227.out 2).trans rfl
                  have hfz24_0 := blk_frozen BK227.out 0
                  have hfz24_1 := blk_frozen BK227.out 1
                  have hfz24_2 := blk_frozen BK227.out 2
                  have p231 : 0 ≤ (x3_2 : Int) := of_decide_eq_true Bc_11
                  have q231 : x3_2 < (l0_2.length : Int) := of_decide_eq_true Bc_11
                  obtain ⟨ad231, e231, hx231_0⟩ := Kd.at_int HR0_2.out x3_2 p231 q231
                  obtain rfl : ad229 = ad231 := (by injection e231)
                  replace hx231_0 := (HB.out.cell (World.block_lt_of_cell? w _ hx231_0)).trans hx231_0
                  replace p231 := eq_true p231
                  replace q231 := eq_true q231
                  have p232 : 0 ≤ (x4_3 : Int) := of_decide_eq_true Bc_11
                  have q232 : x4_3 < (l0_2.length : Int) := of_decide_eq_true Bc_11
                  obtain ⟨ad232, e232, hx232_0⟩ := Kd.at_int HR0_2.out x4_3 p232 q232
                  obtain rfl : ad229 = ad232 := (by injection e232)
                  replace hx232_0 := (HB.out.cell (World.block_lt_of_cell? w _ hx232_0)).trans hx232_0
                  replace p232 := eq_true p232
                  replace q232 := eq_true q232
                  have p233 : 0 ≤ (x3_2 : Int) := of_decide_eq_true Bc_11
                  have q233 : x3_2 < (l0_2.length : Int) := of_decide_eq_true Bc_11
                  obtain ⟨ad233, e233, hx233_0⟩ := Kd.at_int HR0_2.out x3_2 p233 q233
                  obtain rfl : ad229 = ad233 := (by injection e233)
                  replace hx233_0 := (HB.out.cell (World.block_lt_of_cell? w _ hx233_0)).trans hx233_0
                  replace p233 := eq_true p233
                  replace q233 := eq_true q233
                  go_wp2
                  repeat (go_quiet (fail); try go_wp2)
                  go_ret
                  exact ⟨by first | rfl | (simp [errW_none, errW_some] <;> rfl) | (simp [*, errW_none, errW_some] <;> rfl), by repeat (first | (with_reducible first | exact HB.out | apply below_alloc | apply pw_below_drewN | apply below_drew1 | refine below_set ?_ GE227.out) | exact HB.out)⟩
                 ·rw [if_neg c23] at H
                  have c23b0 : ((rd l0_2 x4_3) == (rd l0_2 x3_2)) = false := beq_eq_false_iff_ne.mpr c23
                  have c23b1 : ((rd l0_2 x4_3) != (rd l0_2 x3_2)) = true := bne_iff_ne.mpr c23
                  have H' := Aside0.mk H
                  clear H
                  have hcz25_0 : wr.cell? ⟨gb227, 0, none⟩ = some (.slice A0_0 l0_0.length c0_0) := (blk_cell BK227.out 0).trans rfl
                  have hcz25_1 : wr.cell? ⟨gb227, 1, none⟩ = some (.slice A0_1 l0_1.length c0_1) := (blk_cell BK227.out 1).trans rfl
                  have hcz25_2 : wr.cell? ⟨gb227, 2, none⟩ = some (.slice (some ad229) l0_2.length c0_2) := (blk_cell BK227.out 2).trans rfl
                  have hfz25_0 := blk_frozen BK227.out 0
                  have hfz25_1 := blk_frozen BK227.out 1
                  have hfz25_2 := blk_frozen BK227.out 2
                  have p231 : 0 ≤ (x3_2 : Int) := of_decide_eq_true Bc_11
                  have q231 : x3_2 < (l0_2.length : Int) := of_decide_eq_true Bc_11
                  obtain ⟨ad231, e231, hx231_0⟩ := Kd.at_int HR0_2.out x3_2 p231 q231
                  obtain rfl : ad229 = ad231 := (by injection e231)
                  replace hx231_0 := (HB.out.cell (World.block_lt_of_cell? w _ hx231_0)).trans hx231_0
                  replace p231 := eq_true p231
                  replace q231 := eq_true q231
                  have p232 : 0 ≤ (x4_3 : Int) := of_decide_eq_true Bc_11
                  have q232 : x4_3 < (l0_2.length : Int) := of_decide_eq_true Bc_11
                  obtain ⟨ad232, e232, hx232_0⟩ := Kd.at_int HR0_2.out x4_3 p232 q232
                  obtain rfl : ad229 = ad232 := (by injection e232)
                  replace hx232_0 := (HB.out.cell (World.block_lt_of_cell? w _ hx232_0)).trans hx232_0
                  replace p232 := eq_true p232
                  replace q232 := eq_true q232
                  have p233 : 0 ≤ (x3_2 : Int) := of_decide_eq_true Bc_11
                  have q233 : x3_2 < (l0_2.length : Int) := of_decide_eq_true Bc_11
                  obtain ⟨ad233, e233, hx233_0⟩ := Kd.at_int HR0_2.out x3_2 p233 q233
                  obtain rfl : ad229 = ad233 := (by injection e233)
                  replace hx233_0 := (HB.out.cell (World.block_lt_of_cell? w _ hx233_0)).trans hx233_0
                  replace p233 := eq_true p233
                  replace q233 := eq_true q233
                  go_wp2
                  repeat (go_quiet (fail); try go_wp2)
                  go_roundg k3
                  case measure => have := HJ1.out; have := HK2.out; have := HK3.out; omega
                  case rel => exact ⟨(wrap64 (x4_3 + 1)), Bc_18, H', ⟨by have := HJ1.out; have := HK2.out; have := HK3.out; omega⟩, ⟨by (with_reducible repeat (first | refine blk_drewN ?_ _ | refine blk_drew ?_ | refine blk_alloc ?_ _)); exact BK227.out⟩, ⟨by repeat (first | (with_reducible first | exact HB.out | apply below_alloc | apply pw_below_drewN | apply below_drew1 | refine below_set ?_ GE227.out) | exact HB.out)⟩⟩
                ·rw [if_neg c22] at H
                 exact absurd H (by simp)
               ·rw [if_neg c21] at H
                exact absurd H (by simp)
              ·rw [if_neg c20] at H
               have c20b0 : decide (0 ≤ (rd l0_2 x3_2)) = false := decide_eq_false c20
               clear c20
               have H' := Aside0.mk H
               clear H
               have hcz26_0 : wr.cell? ⟨gb227, 0, none⟩ = some (.slice A0_0 l0_0.length c0_0) := (blk_cell BK227.out 0).trans rfl
               have hcz26_1 : wr.cell? ⟨gb227, 1, none⟩ = some (.slice A0_1 l0_1.length c0_1) := (blk_cell BK227.out 1).trans rfl
               have hcz26_2 : wr.cell? ⟨gb227, 2, none⟩ = some (.slice (some ad229) l0_2.length c0_2) := (blk_cell BK227.out 2).trans rfl
               have hfz26_0 := blk_frozen BK227.out 0
               have hfz26_1 := blk_frozen BK227.out 1
               have hfz26_2 := blk_frozen BK227.out 2
               have p231 : 0 ≤ (x3_2 : Int) := of_decide_eq_true Bc_11
               have q231 : x3_2 < (l0_2.length : Int) := of_decide_eq_true Bc_11
               obtain ⟨ad231, e231, hx231_0⟩ := Kd.at_int HR0_2.out x3_2 p231 q231
               obtain rfl : ad229 = ad231 := (by injection e231)
               replace hx231_0 := (HB.out.cell (World.block_lt_of_cell? w _ hx231_0)).trans hx231_0
               replace p231 := eq_true p231
               replace q231 := eq_true q231
               go_wp2
               repeat (go_quiet (fail); try go_wp2)
               go_roundg k3
               case measure => have := HJ1.out; have := HK2.out; have := HK3.out; omega
               case rel => exact ⟨(wrap64 (x4_3 + 1)), Bc_18, H', ⟨by have := HJ1.out; have := HK2.out; have := HK3.out; omega⟩, ⟨by (with_reducible repeat (first | refine blk_drewN ?_ _ | refine blk_drew ?_ | refine blk_alloc ?_ _)); exact BK227.out⟩, ⟨by repeat (first | (with_reducible first | exact HB.out | apply below_alloc | apply pw_below_drewN | apply below_drew1 | refine below_set ?_ GE227.out) | exact HB.out)⟩⟩
             ·rw [if_neg c19] at H
              exact absurd H (by simp)
            ·rw [if_neg c18] at H
             exact absurd H (by simp)
           ·rw [if_neg c17] at H
            have c17b0 : decide (x4_3 < x3_2) = false := decide_eq_false c17
            clear c17
            have H' := Aside0.mk H
            clear H
            go_wp2
            repeat (go_quiet (fail); try go_wp2)
            go_roundg k3
            case measure => have := HJ1.out; have := HK2.out; have := HK3.out; omega
            case rel => exact ⟨(wrap64 (x3_2 + 1)), Bc_18, H', ⟨by have := HJ1.out; have := HK2.out; have := HK3.out; omega⟩, ⟨by (with_reducible repeat (first | refine blk_drewN ?_ _ | refine blk_drew ?_ | refine blk_alloc ?_ _)); exact BK227.out⟩, ⟨by repeat (first | (with_reducible first | exact HB.out | apply below_alloc | apply pw_below_drewN | apply below_drew1 | refine below_set ?_ GE227.out) | exact HB.out)⟩⟩
        ·replace c15 := Bool.eq_false_iff.mpr c15
         subst c15
         have H1 : (some false) = some r := by rw [if_neg (show ¬ (false = true) by decide)] at H; exact H
         clear H
         have H := H1
         clear H1
         obtain rfl := Option.some.inj H
         have hcz27_0 : wr.cell? ⟨gb227, 0, none⟩ = some (.slice A0_0 l0_0.length c0_0) := (blk_cell BK227.out 0).trans rfl
         have hcz27_1 : wr.cell? ⟨gb227, 1, none⟩ = some (.slice A0_1 l0_1.length c0_1) := (blk_cell BK227.out 1).trans rfl
         have hcz27_2 : wr.cell? ⟨gb227, 2, none⟩ = some (.slice A0_2 l0_2.length c0_2) := (blk_cell BK227.out 2).trans rfl
         have hfz27_0 := blk_frozen BK227.out 0
         have hfz27_1 := blk_frozen BK227.out 1
         have hfz27_2 := blk_frozen BK227.out 2
         have p229 : 0 ≤ (x3_2 : Int) := of_decide_eq_true Bc_11
         have q229 : x3_2 < (l0_2.length : Int) := of_decide_eq_true Bc_11
         obtain ⟨ad229, e229, hx229_0⟩ := Kd.at_int HR0_2.out x3_2 p229 q229
         cases e229
         replace hx229_0 := (HB.out.cell (World.block_lt_of_cell? w _ hx229_0)).trans hx229_0
         replace p229 := eq_true p229
         replace q229 := eq_true q229
         go_wp2_with (first | (go_at_call 103; (with_reducible refine (spec_l01In.calls (rd l0_2 x3_2) (-1) 5 false _ A14.out).mono ?_); rintro e w' ⟨rfl, ⟨nd, rfl⟩⟩; (try first | exact ⟨rfl, _, World.drewN_drewN _ _ _⟩ | exact ⟨rfl, _, Eq.trans (World.drewN_drewN _ _ _) (congrArg (World.drewN _) (Nat.add_assoc _ _ _))⟩)))
         repeat (go_quiet (first | (go_at_call 103; (with_reducible refine (spec_l01In.calls (rd l0_2 x3_2) (-1) 5 false _ A14.out).mono ?_); rintro e w' ⟨rfl, ⟨nd, rfl⟩⟩; (try first | exact ⟨rfl, _, World.drewN_drewN _ _ _⟩ | exact ⟨rfl, _, Eq.trans (World.drewN_drewN _ _ _) (congrArg (World.drewN _) (Nat.add_assoc _ _ _))⟩))); try go_wp2_with (first | (go_at_call 103; (with_reducible refine (spec_l01In.calls (rd l0_2 x3_2) (-1) 5 false _ A14.out).mono ?_); rintro e w' ⟨rfl, ⟨nd, rfl⟩⟩; (try first | exact ⟨rfl, _, World.drewN_drewN _ _ _⟩ | exact ⟨rfl, _, Eq.trans (World.drewN_drewN _ _ _) (congrArg (World.drewN _) (Nat.add_assoc _ _ _))⟩))))
         go_ret
         exact ⟨by first | rfl | (simp [errW_none, errW_some] <;> rfl) | (simp [*, errW_none, errW_some] <;> rfl), by repeat (first | (with_reducible first | exact HB.out | apply below_alloc | apply pw_below_drewN | apply below_drew1 | refine below_set ?_ GE227.out) | exact HB.out)⟩
       ·rw [if_neg c13] at H
        exact absurd H (by simp)
      ·rw [if_neg c12] at H
       have c12b0 : decide (x3_2 < (l0_2.length : Int)) = false := decide_eq_false c12
       clear c12
       obtain rfl := Option.some.inj H
       have hcz28_0 : wr.cell? ⟨gb227, 0, none⟩ = some (.slice A0_0 l0_0.length c0_0) := (blk_cell BK227.out 0).trans rfl
       have hcz28_1 : wr.cell? ⟨gb227, 1, none⟩ = some (.slice A0_1 l0_1.length c0_1) := (blk_cell BK227.out 1).trans rfl
       have hcz28_2 : wr.cell? ⟨gb227, 2, none⟩ = some (.slice A0_2 l0_2.length c0_2) := (blk_cell BK227.out 2).trans rfl
       have hfz28_0 := blk_frozen BK227.out 0
       have hfz28_1 := blk_frozen BK227.out 1
       have hfz28_2 := blk_frozen BK227.out 2
       go_wp2
       repeat (go_quiet (fail); try go_wp2)
       go_ret
       exact ⟨by first | rfl | (simp [errW_none, errW_some] <;> rfl) | (simp [*, errW_none, errW_some] <;> rfl), by repeat (first | (with_reducible first | exact HB.out | apply below_alloc | apply pw_below_drewN | apply below_drew1 | refine below_set ?_ GE227.out) | exact HB.out)⟩
end Go.Proofs.Ytjmhhgnknjfnlaa.PFnExactReadLayout
namespace Go.Proofs.Ytjmhhgnknjfnlaa.PFnExactReadLayout
open Go.RowKit Go.Proofs.YtjmhhgnknjfnlaaW.PrintWords Go.Proofs.YtjmhhgnknjfnlaaW.PrintLast Go.Proofs.YtjmhhgnknjfnlaaW.PrintMore
attribute [local go_sem] max2_int min2_int max_two min_two max_three min_three max_four min_four
set_option linter.unusedVariables false
set_option linter.unusedSimpArgs false
def spec_l25List.l0 : Nat → List Int → ByteArray → Int → Option (ByteArray)
 | 0, _, _, _ => none
 | k + 1, x0, x3, x4 => if x4 < (x0.length : Int) then (if x4 > 0 then (if x3.size + 1 ≤ 9223372036854775807 then (if 0 ≤ x4 then (if (rd x0 x4) < 0 then (if (x3 ++ (⟨#[44]⟩ : ByteArray)).size + 1 ≤ 9223372036854775807 then (spec_l25List.l0 k x0 ((x3 ++ (⟨#[44]⟩ : ByteArray)) ++ (⟨#[120]⟩ : ByteArray)) (wrap64 (x4 + 1))) else (none)) else ((spec_Decimal.f k (rd x0 x4)).bind fun t236 => (if (x3 ++ (⟨#[44]⟩ : ByteArray)).size + t236.size ≤ 9223372036854775807 then (spec_l25List.l0 k x0 ((x3 ++ (⟨#[44]⟩ : ByteArray)) ++ t236) (wrap64 (x4 + 1))) else (none)))) else (none)) else (none)) else (if 0 ≤ x4 then (if (rd x0 x4) < 0 then (if x3.size + 1 ≤ 9223372036854775807 then (spec_l25List.l0 k x0 (x3 ++ (⟨#[120]⟩ : ByteArray)) (wrap64 (x4 + 1))) else (none)) else ((spec_Decimal.f k (rd x0 x4)).bind fun t239 => (if x3.size + t239.size ≤ 9223372036854775807 then (spec_l25List.l0 k x0 (x3 ++ t239) (wrap64 (x4 + 1))) else (none)))) else (none))) else (some x3)
def spec_l25List.f (k : Nat) (l0 : List Int) : Option (ByteArray) := spec_l25List.l0 k l0 (⟨#[]⟩ : ByteArray) 0
theorem spec_l25List.mono_l : ∀ k, (∀ y0 y1 y2, LeO (spec_l25List.l0 k y0 y1 y2) (spec_l25List.l0 (k + 1) y0 y1 y2))
 | 0 => fun _ _ _ r h => by simp [spec_l25List.l0] at h
 | k + 1 => by
  have ih0 := spec_l25List.mono_l k
  ·intro y0 y1 y2
   unfold spec_l25List.l0
   repeat' first
   | (with_reducible exact ih0 _ _ _)
   | (with_reducible exact spec_Decimal.mono _ _)
   | (with_reducible exact LeO.refl _)
   | (with_reducible exact LeO.none _)
   | (with_reducible refine LeO.ite ?_ ?_)
   | (with_reducible refine LeO.bind ?_ (fun _ => ?_))
   | exact ih0 _ _ _
   | exact spec_Decimal.mono _ _
   | exact LeO.none _
   | refine LeO.ite ?_ ?_
   | refine LeO.bind ?_ (fun _ => ?_)
theorem spec_l25List.mono : ∀ a0 k, LeO (spec_l25List.f k a0) (spec_l25List.f (k + 1) a0) := by
 intro a0 k
 have ih0 := spec_l25List.mono_l k
 unfold spec_l25List.f
 repeat' first
   | (with_reducible exact ih0 _ _ _)
   | (with_reducible exact spec_Decimal.mono _ _)
   | (with_reducible exact LeO.refl _)
   | (with_reducible exact LeO.none _)
   | (with_reducible refine LeO.ite ?_ ?_)
   | (with_reducible refine LeO.bind ?_ (fun _ => ?_))
   | exact ih0 _ _ _
   | exact spec_Decimal.mono _ _
   | exact LeO.none _
   | refine LeO.ite ?_ ?_
   | refine LeO.bind ?_ (fun _ => ?_)
set_option maxHeartbeats 8000000 in
set_option maxRecDepth 100000 in
theorem spec_l25List.calls (k : Nat) (A0 : Option Addr) (c0 : Nat) (l0 : List Int) (r : ByteArray) (w : World) (hr0 : Kd.C (Kd.int .i64) w A0 l0.length l0) (hc0 : l0.length ≤ c0) (h : spec_l25List.f k l0 = some r) :
  Calls Try.prog 144 #[.slice A0 l0.length c0] w fun e w' => e = .returned (.string r) ∧ Below w.heap.size w w' := by
 have HR0 := Aside0.mk hr0
 have HC0 := Aside0.mk hc0
 clear hr0 hc0
 have HB := Aside0.mk (Below.refl w.heap.size w)
 have H : (spec_l25List.l0 k l0 (⟨#[]⟩ : ByteArray) 0) = some r := h
 clear h
 have H' := Aside0.mk H
 clear H
 go_enter Try.func144, Try.ntmps144
 go_wp2
 go_loopg [3, 4] k (fun kq v3 v4 w' => ∃ (x3_1 : ByteArray) (x4_1 : Int), v3 = .string x3_1 ∧ v4 = .int .i64 x4_1 ∧ Aside0 (spec_l25List.l0 kq l0 x3_1 x4_1 = some r) ∧ Aside0 (kq ≤ k) ∧ Aside0 (Below w.heap.size w w'))
 case atStart => exact ⟨((⟨#[]⟩ : ByteArray)), (0), Bc_18, Bc_18, H', ⟨Nat.le_refl _⟩, ⟨by repeat (first | (with_reducible first | exact HB.out | apply below_alloc | apply pw_below_drewN | apply below_drew1) | exact HB.out)⟩⟩
 case round =>
  clear H'
  try clear c1
  obtain ⟨x3_1, x4_1, rfl, rfl, HA, HK1, HB⟩ := hrel
  cases gk with
  | zero => exact absurd HA.out (by simp [spec_l25List.l0])
  | succ k1 =>
   have H := HA.out
   clear HA
   simp only [spec_l25List.l0] at H
   by_cases c2 : x4_1 < (l0.length : Int)
   ·rw [if_pos c2] at H
    have c2b0 : decide (x4_1 < (l0.length : Int)) = true := decide_eq_true c2
    clear c2
    by_cases c3 : x4_1 > 0
    ·rw [if_pos c3] at H
     have c3b0 : decide (0 < x4_1) = true := decide_eq_true c3
     clear c3
     by_cases c4 : x3_1.size + 1 ≤ 9223372036854775807
     ·rw [if_pos c4] at H
      have c4b0 := eq_true c4
      have c4b1 : decide (x3_1.size + 1 ≤ 9223372036854775807) = true := decide_eq_true c4
      try have c4b2 : (9223372036854775807 < x3_1.size + 1) = False := eq_false (Nat.not_lt.2 c4)
      by_cases c5 : 0 ≤ x4_1
      ·rw [if_pos c5] at H
       have c5b0 : decide (0 ≤ x4_1) = true := decide_eq_true c5
       clear c5
       by_cases c6 : (rd l0 x4_1) < 0
       ·rw [if_pos c6] at H
        have c6b0 : decide ((rd l0 x4_1) < 0) = true := decide_eq_true c6
        clear c6
        by_cases c7 : (x3_1 ++ (⟨#[44]⟩ : ByteArray)).size + 1 ≤ 9223372036854775807
        ·rw [if_pos c7] at H
         have c7b0 := eq_true c7
         have c7b1 : decide ((x3_1 ++ (⟨#[44]⟩ : ByteArray)).size + 1 ≤ 9223372036854775807) = true := decide_eq_true c7
         try have c7b2 : (9223372036854775807 < (x3_1 ++ (⟨#[44]⟩ : ByteArray)).size + 1) = False := eq_false (Nat.not_lt.2 c7)
         try have c7b3 : (9223372036854775807 < x3_1.size + 1 + 1) = False := eq_false (Nat.not_lt.2 (by have h_ := c7; simp only [ByteArray.size_append] at h_; exact h_))
         have H' := Aside0.mk H
         clear H
         have p234 : 0 ≤ (x4_1 : Int) := of_decide_eq_true Bc_11
         have q234 : x4_1 < (l0.length : Int) := of_decide_eq_true Bc_11
         obtain ⟨ad234, e234, hx234_0⟩ := Kd.at_int HR0.out x4_1 p234 q234
         cases e234
         replace hx234_0 := (HB.out.cell (World.block_lt_of_cell? w _ hx234_0)).trans hx234_0
         replace p234 := eq_true p234
         replace q234 := eq_true q234
         go_wp2
         go_roundg k1
         case measure => have := HK1.out; omega
         case rel => exact ⟨((x3_1 ++ (⟨#[44]⟩ : ByteArray)) ++ (⟨#[120]⟩ : ByteArray)), (wrap64 (x4_1 + 1)), Bc_18, Bc_18, H', ⟨by have := HK1.out; omega⟩, ⟨by repeat (first | (with_reducible first | exact HB.out | apply below_alloc | apply pw_below_drewN | apply below_drew1) | exact HB.out)⟩⟩
        ·rw [if_neg c7] at H
         exact absurd H (by simp)
       ·rw [if_neg c6] at H
        have c6b0 : decide ((rd l0 x4_1) < 0) = false := decide_eq_false c6
        clear c6
        replace H := Option.bind_eq_some_iff.mp H
        obtain ⟨t236, A80, H⟩ := H
        replace H : (if (x3_1 ++ (⟨#[44]⟩ : ByteArray)).size + t236.size ≤ 9223372036854775807 then (spec_l25List.l0 k1 l0 ((x3_1 ++ (⟨#[44]⟩ : ByteArray)) ++ t236) (wrap64 (x4_1 + 1))) else (none)) = some r := H
        have A8 := Aside0.mk A80
        clear A80
        by_cases c9 : (x3_1 ++ (⟨#[44]⟩ : ByteArray)).size + t236.size ≤ 9223372036854775807
        ·rw [if_pos c9] at H
         have c9b0 := eq_true c9
         have c9b1 : decide ((x3_1 ++ (⟨#[44]⟩ : ByteArray)).size + t236.size ≤ 9223372036854775807) = true := decide_eq_true c9
         try have c9b2 : (9223372036854775807 < (x3_1 ++ (⟨#[44]⟩ : ByteArray)).size + t236.size) = False := eq_false (Nat.not_lt.2 c9)
         try have c9b3 : (9223372036854775807 < x3_1.size + 1 + t236.size) = False := eq_false (Nat.not_lt.2 (by have h_ := c9; simp only [ByteArray.size_append] at h_; exact h_))
         have H' := Aside0.mk H
         clear H
         have p234 : 0 ≤ (x4_1 : Int) := of_decide_eq_true Bc_11
         have q234 : x4_1 < (l0.length : Int) := of_decide_eq_true Bc_11
         obtain ⟨ad234, e234, hx234_0⟩ := Kd.at_int HR0.out x4_1 p234 q234
         cases e234
         replace hx234_0 := (HB.out.cell (World.block_lt_of_cell? w _ hx234_0)).trans hx234_0
         replace p234 := eq_true p234
         replace q234 := eq_true q234
         have p235 : 0 ≤ (x4_1 : Int) := of_decide_eq_true Bc_11
         have q235 : x4_1 < (l0.length : Int) := of_decide_eq_true Bc_11
         obtain ⟨ad235, e235, hx235_0⟩ := Kd.at_int HR0.out x4_1 p235 q235
         obtain rfl : ad234 = ad235 := (by injection e235)
         replace hx235_0 := (HB.out.cell (World.block_lt_of_cell? w _ hx235_0)).trans hx235_0
         replace p235 := eq_true p235
         replace q235 := eq_true q235
         go_wp2_with (first | ((with_reducible refine gate_callee (f := 127) rfl ?_); refine goesL_ (some 27) rfl rfl Try.func127 (by kernel_rfl) rfl #[.int .i64 (rd l0 x4_1)] rfl Bc_4 ?_; (with_reducible refine (spec_Decimal.calls k1 (rd l0 x4_1) t236 _ A8.out).mono ?_); rintro e w10 ⟨rfl, hb⟩; refine ⟨_, rfl, ?_⟩; have n0_ := Aside0.mk (below_step Bc_7 hb); clear HB; have HB := n0_; clear n0_; (try clear hb); (try clear hb2); (try clear hk); (try clear hi)))
         go_roundg k1
         case measure => have := HK1.out; omega
         case rel => exact ⟨((x3_1 ++ (⟨#[44]⟩ : ByteArray)) ++ t236), (wrap64 (x4_1 + 1)), Bc_18, Bc_18, H', ⟨by have := HK1.out; omega⟩, ⟨by repeat (first | (with_reducible first | exact HB.out | apply below_alloc | apply pw_below_drewN | apply below_drew1) | exact HB.out)⟩⟩
        ·rw [if_neg c9] at H
         exact absurd H (by simp)
      ·rw [if_neg c5] at H
       exact absurd H (by simp)
     ·rw [if_neg c4] at H
      exact absurd H (by simp)
    ·rw [if_neg c3] at H
     have c3b0 : decide (0 < x4_1) = false := decide_eq_false c3
     clear c3
     by_cases c11 : 0 ≤ x4_1
     ·rw [if_pos c11] at H
      have c11b0 : decide (0 ≤ x4_1) = true := decide_eq_true c11
      clear c11
      by_cases c12 : (rd l0 x4_1) < 0
      ·rw [if_pos c12] at H
       have c12b0 : decide ((rd l0 x4_1) < 0) = true := decide_eq_true c12
       clear c12
       by_cases c13 : x3_1.size + 1 ≤ 9223372036854775807
       ·rw [if_pos c13] at H
        have c13b0 := eq_true c13
        have c13b1 : decide (x3_1.size + 1 ≤ 9223372036854775807) = true := decide_eq_true c13
        try have c13b2 : (9223372036854775807 < x3_1.size + 1) = False := eq_false (Nat.not_lt.2 c13)
        have H' := Aside0.mk H
        clear H
        have p237 : 0 ≤ (x4_1 : Int) := of_decide_eq_true Bc_11
        have q237 : x4_1 < (l0.length : Int) := of_decide_eq_true Bc_11
        obtain ⟨ad237, e237, hx237_0⟩ := Kd.at_int HR0.out x4_1 p237 q237
        cases e237
        replace hx237_0 := (HB.out.cell (World.block_lt_of_cell? w _ hx237_0)).trans hx237_0
        replace p237 := eq_true p237
        replace q237 := eq_true q237
        go_wp2
        go_roundg k1
        case measure => have := HK1.out; omega
        case rel => exact ⟨(x3_1 ++ (⟨#[120]⟩ : ByteArray)), (wrap64 (x4_1 + 1)), Bc_18, Bc_18, H', ⟨by have := HK1.out; omega⟩, ⟨by repeat (first | (with_reducible first | exact HB.out | apply below_alloc | apply pw_below_drewN | apply below_drew1) | exact HB.out)⟩⟩
       ·rw [if_neg c13] at H
        exact absurd H (by simp)
      ·rw [if_neg c12] at H
       have c12b0 : decide ((rd l0 x4_1) < 0) = false := decide_eq_false c12
       clear c12
       replace H := Option.bind_eq_some_iff.mp H
       obtain ⟨t239, A140, H⟩ := H
       replace H : (if x3_1.size + t239.size ≤ 9223372036854775807 then (spec_l25List.l0 k1 l0 (x3_1 ++ t239) (wrap64 (x4_1 + 1))) else (none)) = some r := H
       have A14 := Aside0.mk A140
       clear A140
       by_cases c15 : x3_1.size + t239.size ≤ 9223372036854775807
       ·rw [if_pos c15] at H
        have c15b0 := eq_true c15
        have c15b1 : decide (x3_1.size + t239.size ≤ 9223372036854775807) = true := decide_eq_true c15
        try have c15b2 : (9223372036854775807 < x3_1.size + t239.size) = False := eq_false (Nat.not_lt.2 c15)
        have H' := Aside0.mk H
        clear H
        have p237 : 0 ≤ (x4_1 : Int) := of_decide_eq_true Bc_11
        have q237 : x4_1 < (l0.length : Int) := of_decide_eq_true Bc_11
        obtain ⟨ad237, e237, hx237_0⟩ := Kd.at_int HR0.out x4_1 p237 q237
        cases e237
        replace hx237_0 := (HB.out.cell (World.block_lt_of_cell? w _ hx237_0)).trans hx237_0
        replace p237 := eq_true p237
        replace q237 := eq_true q237
        have p238 : 0 ≤ (x4_1 : Int) := of_decide_eq_true Bc_11
        have q238 : x4_1 < (l0.length : Int) := of_decide_eq_true Bc_11
        obtain ⟨ad238, e238, hx238_0⟩ := Kd.at_int HR0.out x4_1 p238 q238
        obtain rfl : ad237 = ad238 := (by injection e238)
        replace hx238_0 := (HB.out.cell (World.block_lt_of_cell? w _ hx238_0)).trans hx238_0
        replace p238 := eq_true p238
        replace q238 := eq_true q238
        go_wp2_with (first | ((with_reducible refine gate_callee (f := 127) rfl ?_); refine goesL_ (some 27) rfl rfl Try.func127 (by kernel_rfl) rfl #[.int .i64 (rd l0 x4_1)] rfl Bc_4 ?_; (with_reducible refine (spec_Decimal.calls k1 (rd l0 x4_1) t239 _ A14.out).mono ?_); rintro e w16 ⟨rfl, hb⟩; refine ⟨_, rfl, ?_⟩; have n0_ := Aside0.mk (below_step Bc_7 hb); clear HB; have HB := n0_; clear n0_; (try clear hb); (try clear hb2); (try clear hk); (try clear hi)))
        go_roundg k1
        case measure => have := HK1.out; omega
        case rel => exact ⟨(x3_1 ++ t239), (wrap64 (x4_1 + 1)), Bc_18, Bc_18, H', ⟨by have := HK1.out; omega⟩, ⟨by repeat (first | (with_reducible first | exact HB.out | apply below_alloc | apply pw_below_drewN | apply below_drew1) | exact HB.out)⟩⟩
       ·rw [if_neg c15] at H
        exact absurd H (by simp)
     ·rw [if_neg c11] at H
      exact absurd H (by simp)
   ·rw [if_neg c2] at H
    have c2b0 : decide (x4_1 < (l0.length : Int)) = false := decide_eq_false c2
    clear c2
    obtain rfl := Option.some.inj H
    go_wp2
    go_ret
    exact ⟨by first | rfl | (simp [errW_none, errW_some] <;> rfl) | (simp [*, errW_none, errW_some] <;> rfl), by repeat (first | (with_reducible first | exact HB.out | apply below_alloc | apply pw_below_drewN | apply below_drew1) | exact HB.out)⟩
end Go.Proofs.Ytjmhhgnknjfnlaa.PFnExactReadLayout
namespace Go.Proofs.Ytjmhhgnknjfnlaa.PFnExactReadLayout
open Go.RowKit Go.Proofs.YtjmhhgnknjfnlaaW.PrintWords Go.Proofs.YtjmhhgnknjfnlaaW.PrintLast Go.Proofs.YtjmhhgnknjfnlaaW.PrintMore
attribute [local go_sem] max2_int min2_int max_two min_two max_three min_three max_four min_four
set_option linter.unusedVariables false
set_option linter.unusedSimpArgs false
def spec_LayoutText.f (k : Nat) (l0_0 : List Int) (l0_1 : List Int) (l0_2 : List Int) : Option (ByteArray × Bool) := (spec_LayoutOk.f k l0_0 l0_1 l0_2).bind fun t241 => (if t241 = true then ((spec_l25List.f k l0_0).bind fun t242 => (if t242.size + 1 ≤ 9223372036854775807 then ((spec_l25List.f k l0_1).bind fun t243 => (if (t242 ++ (⟨#[47]⟩ : ByteArray)).size + t243.size ≤ 9223372036854775807 then (if ((t242 ++ (⟨#[47]⟩ : ByteArray)) ++ t243).size + 1 ≤ 9223372036854775807 then ((spec_l25List.f k l0_2).bind fun t244 => (if (((t242 ++ (⟨#[47]⟩ : ByteArray)) ++ t243) ++ (⟨#[47]⟩ : ByteArray)).size + t244.size ≤ 9223372036854775807 then (some ((((t242 ++ (⟨#[47]⟩ : ByteArray)) ++ t243) ++ (⟨#[47]⟩ : ByteArray)) ++ t244, true)) else (none))) else (none)) else (none))) else (none))) else (some ((⟨#[]⟩ : ByteArray), false)))
theorem spec_LayoutText.mono : ∀ a0 a1 a2 k, LeO (spec_LayoutText.f k a0 a1 a2) (spec_LayoutText.f (k + 1) a0 a1 a2) := by
 intro a0 a1 a2 k
 unfold spec_LayoutText.f
 repeat' first
   | (with_reducible exact spec_LayoutOk.mono _ _ _ _)
   | (with_reducible exact spec_l25List.mono _ _)
   | (with_reducible exact LeO.refl _)
   | (with_reducible exact LeO.none _)
   | (with_reducible refine LeO.ite ?_ ?_)
   | (with_reducible refine LeO.bind ?_ (fun _ => ?_))
   | exact spec_LayoutOk.mono _ _ _ _
   | exact spec_l25List.mono _ _
   | exact LeO.none _
   | refine LeO.ite ?_ ?_
   | refine LeO.bind ?_ (fun _ => ?_)
def spec_LayoutText.T3 : Bool × List (List Nat × List Nat) := (true, [([], []), ([0], [0]), ([1], [1]), ([2], [2]), ([], []), ([4], [4]), ([5, 2], [5]), ([3, 6], [3, 6]), ([7], [7]), ([], []), ([9], [9]), ([10, 6], [10]), ([8, 11], [8, 11]), ([12, 11, 0, 1, 2, 3, 4, 5, 6, 7, 8, 9, 10, 11, 12], [12]), ([13, 0, 1, 2, 3, 4, 5, 6, 7, 8, 9, 10, 11, 12, 13], [])])
def spec_LayoutText.B3 : List Nat := [0, 1, 3, 7, 0, 16, 55, 127, 255, 0, 512, 1655, 4095, 8191, 16383]
theorem spec_LayoutText.tab3 : rtab .any (opsOf Try.f99 3) = spec_LayoutText.T3 := by kernel_rfl
theorem spec_LayoutText.bits3 : waitsOk spec_LayoutText.T3.2 spec_LayoutText.B3 = true := by kernel_rfl
set_option maxHeartbeats 8000000 in
set_option maxRecDepth 100000 in
theorem spec_LayoutText.calls (k : Nat) (A0_0 : Option Addr) (c0_0 : Nat) (l0_0 : List Int) (A0_1 : Option Addr) (c0_1 : Nat) (l0_1 : List Int) (A0_2 : Option Addr) (c0_2 : Nat) (l0_2 : List Int) (r1 : ByteArray) (r2 : Bool) (w : World) (hr0_0 : Kd.C (Kd.int .i64) w A0_0 l0_0.length l0_0) (hc0_0 : l0_0.length ≤ c0_0) (hr0_1 : Kd.C (Kd.int .i64) w A0_1 l0_1.length l0_1) (hc0_1 : l0_1.length ≤ c0_1) (hr0_2 : Kd.C (Kd.int .i64) w A0_2 l0_2.length l0_2) (hc0_2 : l0_2.length ≤ c0_2) (h : spec_LayoutText.f k l0_0 l0_1 l0_2 = some (r1, r2)) :
  Calls Try.prog 99 #[.agg #[.slice A0_0 l0_0.length c0_0, .slice A0_1 l0_1.length c0_1, .slice A0_2 l0_2.length c0_2]] w fun e w' => e = .returned (.tuple #[.string r1, .bool r2]) ∧ Below w.heap.size w w' := by
 have hu39 := Try.underlying39
 have HR0_0 := Aside0.mk hr0_0
 have HC0_0 := Aside0.mk hc0_0
 clear hr0_0 hc0_0
 have HR0_1 := Aside0.mk hr0_1
 have HC0_1 := Aside0.mk hc0_1
 clear hr0_1 hc0_1
 have HR0_2 := Aside0.mk hr0_2
 have HC0_2 := Aside0.mk hc0_2
 clear hr0_2 hc0_2
 have HB := Aside0.mk (Below.refl w.heap.size w)
 have H : ((spec_LayoutOk.f k l0_0 l0_1 l0_2).bind fun t241 => (if t241 = true then ((spec_l25List.f k l0_0).bind fun t242 => (if t242.size + 1 ≤ 9223372036854775807 then ((spec_l25List.f k l0_1).bind fun t243 => (if (t242 ++ (⟨#[47]⟩ : ByteArray)).size + t243.size ≤ 9223372036854775807 then (if ((t242 ++ (⟨#[47]⟩ : ByteArray)) ++ t243).size + 1 ≤ 9223372036854775807 then ((spec_l25List.f k l0_2).bind fun t244 => (if (((t242 ++ (⟨#[47]⟩ : ByteArray)) ++ t243) ++ (⟨#[47]⟩ : ByteArray)).size + t244.size ≤ 9223372036854775807 then (some ((((t242 ++ (⟨#[47]⟩ : ByteArray)) ++ t243) ++ (⟨#[47]⟩ : ByteArray)) ++ t244, true)) else (none))) else (none)) else (none))) else (none))) else (some ((⟨#[]⟩ : ByteArray), false)))) = some (r1, r2) := h
 clear h
 replace H := Option.bind_eq_some_iff.mp H
 obtain ⟨t241, A20, H⟩ := H
 replace H : (if t241 = true then ((spec_l25List.f k l0_0).bind fun t242 => (if t242.size + 1 ≤ 9223372036854775807 then ((spec_l25List.f k l0_1).bind fun t243 => (if (t242 ++ (⟨#[47]⟩ : ByteArray)).size + t243.size ≤ 9223372036854775807 then (if ((t242 ++ (⟨#[47]⟩ : ByteArray)) ++ t243).size + 1 ≤ 9223372036854775807 then ((spec_l25List.f k l0_2).bind fun t244 => (if (((t242 ++ (⟨#[47]⟩ : ByteArray)) ++ t243) ++ (⟨#[47]⟩ : ByteArray)).size + t244.size ≤ 9223372036854775807 then (some ((((t242 ++ (⟨#[47]⟩ : ByteArray)) ++ t243) ++ (⟨#[47]⟩ : ByteArray)) ++ t244, true)) else (none))) else (none)) else (none))) else (none))) else (some ((⟨#[]⟩ : ByteArray), false))) = some (r1, r2) := H
 have A2 := Aside0.mk A20
 clear A20
 by_cases c3 : t241 = true
 ·subst c3
  have H1 : ((spec_l25List.f k l0_0).bind fun t242 => (if t242.size + 1 ≤ 9223372036854775807 then ((spec_l25List.f k l0_1).bind fun t243 => (if (t242 ++ (⟨#[47]⟩ : ByteArray)).size + t243.size ≤ 9223372036854775807 then (if ((t242 ++ (⟨#[47]⟩ : ByteArray)) ++ t243).size + 1 ≤ 9223372036854775807 then ((spec_l25List.f k l0_2).bind fun t244 => (if (((t242 ++ (⟨#[47]⟩ : ByteArray)) ++ t243) ++ (⟨#[47]⟩ : ByteArray)).size + t244.size ≤ 9223372036854775807 then (some ((((t242 ++ (⟨#[47]⟩ : ByteArray)) ++ t243) ++ (⟨#[47]⟩ : ByteArray)) ++ t244, true)) else (none))) else (none)) else (none))) else (none))) = some (r1, r2) := by rw [if_pos rfl] at H; exact H
  clear H
  have H := H1
  clear H1
  replace H := Option.bind_eq_some_iff.mp H
  obtain ⟨t242, A40, H⟩ := H
  replace H : (if t242.size + 1 ≤ 9223372036854775807 then ((spec_l25List.f k l0_1).bind fun t243 => (if (t242 ++ (⟨#[47]⟩ : ByteArray)).size + t243.size ≤ 9223372036854775807 then (if ((t242 ++ (⟨#[47]⟩ : ByteArray)) ++ t243).size + 1 ≤ 9223372036854775807 then ((spec_l25List.f k l0_2).bind fun t244 => (if (((t242 ++ (⟨#[47]⟩ : ByteArray)) ++ t243) ++ (⟨#[47]⟩ : ByteArray)).size + t244.size ≤ 9223372036854775807 then (some ((((t242 ++ (⟨#[47]⟩ : ByteArray)) ++ t243) ++ (⟨#[47]⟩ : ByteArray)) ++ t244, true)) else (none))) else (none)) else (none))) else (none)) = some (r1, r2) := H
  have A4 := Aside0.mk A40
  clear A40
  by_cases c5 : t242.size + 1 ≤ 9223372036854775807
  ·rw [if_pos c5] at H
   have c5b0 := eq_true c5
   have c5b1 : decide (t242.size + 1 ≤ 9223372036854775807) = true := decide_eq_true c5
   try have c5b2 : (9223372036854775807 < t242.size + 1) = False := eq_false (Nat.not_lt.2 c5)
   replace H := Option.bind_eq_some_iff.mp H
   obtain ⟨t243, A60, H⟩ := H
   replace H : (if (t242 ++ (⟨#[47]⟩ : ByteArray)).size + t243.size ≤ 9223372036854775807 then (if ((t242 ++ (⟨#[47]⟩ : ByteArray)) ++ t243).size + 1 ≤ 9223372036854775807 then ((spec_l25List.f k l0_2).bind fun t244 => (if (((t242 ++ (⟨#[47]⟩ : ByteArray)) ++ t243) ++ (⟨#[47]⟩ : ByteArray)).size + t244.size ≤ 9223372036854775807 then (some ((((t242 ++ (⟨#[47]⟩ : ByteArray)) ++ t243) ++ (⟨#[47]⟩ : ByteArray)) ++ t244, true)) else (none))) else (none)) else (none)) = some (r1, r2) := H
   have A6 := Aside0.mk A60
   clear A60
   by_cases c7 : (t242 ++ (⟨#[47]⟩ : ByteArray)).size + t243.size ≤ 9223372036854775807
   ·rw [if_pos c7] at H
    have c7b0 := eq_true c7
    have c7b1 : decide ((t242 ++ (⟨#[47]⟩ : ByteArray)).size + t243.size ≤ 9223372036854775807) = true := decide_eq_true c7
    try have c7b2 : (9223372036854775807 < (t242 ++ (⟨#[47]⟩ : ByteArray)).size + t243.size) = False := eq_false (Nat.not_lt.2 c7)
    try have c7b3 : (9223372036854775807 < t242.size + 1 + t243.size) = False := eq_false (Nat.not_lt.2 (by have h_ := c7; simp only [ByteArray.size_append] at h_; exact h_))
    by_cases c8 : ((t242 ++ (⟨#[47]⟩ : ByteArray)) ++ t243).size + 1 ≤ 9223372036854775807
    ·rw [if_pos c8] at H
     have c8b0 := eq_true c8
     have c8b1 : decide (((t242 ++ (⟨#[47]⟩ : ByteArray)) ++ t243).size + 1 ≤ 9223372036854775807) = true := decide_eq_true c8
     try have c8b2 : (9223372036854775807 < ((t242 ++ (⟨#[47]⟩ : ByteArray)) ++ t243).size + 1) = False := eq_false (Nat.not_lt.2 c8)
     try have c8b3 : (9223372036854775807 < t242.size + 1 + t243.size + 1) = False := eq_false (Nat.not_lt.2 (by have h_ := c8; simp only [ByteArray.size_append] at h_; exact h_))
     replace H := Option.bind_eq_some_iff.mp H
     obtain ⟨t244, A90, H⟩ := H
     replace H : (if (((t242 ++ (⟨#[47]⟩ : ByteArray)) ++ t243) ++ (⟨#[47]⟩ : ByteArray)).size + t244.size ≤ 9223372036854775807 then (some ((((t242 ++ (⟨#[47]⟩ : ByteArray)) ++ t243) ++ (⟨#[47]⟩ : ByteArray)) ++ t244, true)) else (none)) = some (r1, r2) := H
     have A9 := Aside0.mk A90
     clear A90
     by_cases c10 : (((t242 ++ (⟨#[47]⟩ : ByteArray)) ++ t243) ++ (⟨#[47]⟩ : ByteArray)).size + t244.size ≤ 9223372036854775807
     ·rw [if_pos c10] at H
      have c10b0 := eq_true c10
      have c10b1 : decide ((((t242 ++ (⟨#[47]⟩ : ByteArray)) ++ t243) ++ (⟨#[47]⟩ : ByteArray)).size + t244.size ≤ 9223372036854775807) = true := decide_eq_true c10
      try have c10b2 : (9223372036854775807 < (((t242 ++ (⟨#[47]⟩ : ByteArray)) ++ t243) ++ (⟨#[47]⟩ : ByteArray)).size + t244.size) = False := eq_false (Nat.not_lt.2 c10)
      try have c10b3 : (9223372036854775807 < t242.size + 1 + t243.size + 1 + t244.size) = False := eq_false (Nat.not_lt.2 (by have h_ := c10; simp only [ByteArray.size_append] at h_; exact h_))
      simp only [Option.some.injEq, Prod.mk.injEq] at H
      obtain ⟨rfl, rfl⟩ := H
      go_enter Try.func99, Try.ntmps99
      try go_wp2_with (first | ((with_reducible refine gate_dst (N := 1) rfl ?_); refine box_event ?hg (N := 1) ?hd (cs := #[.slice A0_0 l0_0.length c0_0, .slice A0_1 l0_1.length c0_1, .slice A0_2 l0_2.length c0_2]) (t := 39) ?hr ?_; (case hd => rfl); (case hg => rfl); (case hr => first | (go_simp; done) | (go_simp; rfl)); intro gb240 hg w11 hbox hb; have n0_ := Aside0.mk (below_step Bc_7 hb); have n1_ := Aside0.mk (hbox); have n2_ := Aside0.mk ((by rw [hg]; exact (below_size Bc_7) : w.heap.size ≤ gb240)); have n3_ := Aside0.mk ((by rw [hg]; exact (below_size Bc_7) : w.heap.size ≤ gb240)); clear HB; have HB := n0_; have BK240 := n1_; have GW240 := n2_; have GE240 := n3_; clear n0_ n1_ n2_ n3_; clear hb hbox hg; have hcz12_0 : w11.cell? ⟨gb240, 0, none⟩ = some (.slice A0_0 l0_0.length c0_0) := (blk_cell BK240.out 0).trans rfl; have hcz12_1 : w11.cell? ⟨gb240, 1, none⟩ = some (.slice A0_1 l0_1.length c0_1) := (blk_cell BK240.out 1).trans rfl; have hcz12_2 : w11.cell? ⟨gb240, 2, none⟩ = some (.slice A0_2 l0_2.length c0_2) := (blk_cell BK240.out 2).trans rfl; have hfz12_0 := blk_frozen BK240.out 0; have hfz12_1 := blk_frozen BK240.out 1; have hfz12_2 := blk_frozen BK240.out 2) | ((with_reducible refine gate_callee (f := 143) rfl ?_); refine goesL_ (some 5) rfl rfl Try.func143 (by kernel_rfl) rfl #[.agg #[.slice A0_0 l0_0.length c0_0, .slice A0_1 l0_1.length c0_1, .slice A0_2 l0_2.length c0_2]] rfl Bc_4 ?_; (with_reducible refine (spec_LayoutOk.calls k _ _ l0_0 _ _ l0_1 _ _ l0_2 true _ ?side1 ?side2 ?side3 ?side4 ?side5 ?side6 A2.out).mono ?_); (case side1 => repeat (first | exact (Kd.C_below HR0_0.out HB.out) | (with_reducible refine Kd.C_alloc ?_ _) | (with_reducible refine Kd.C_drewN ?_ _) | (with_reducible refine Kd.C_drew ?_))); (case side2 => exact HC0_0.out); (case side3 => repeat (first | exact (Kd.C_below HR0_1.out HB.out) | (with_reducible refine Kd.C_alloc ?_ _) | (with_reducible refine Kd.C_drewN ?_ _) | (with_reducible refine Kd.C_drew ?_))); (case side4 => exact HC0_1.out); (case side5 => repeat (first | exact (Kd.C_below HR0_2.out HB.out) | (with_reducible refine Kd.C_alloc ?_ _) | (with_reducible refine Kd.C_drewN ?_ _) | (with_reducible refine Kd.C_drew ?_))); (case side6 => exact HC0_2.out); rintro e w13 ⟨rfl, hb⟩; refine ⟨_, rfl, ?_⟩; have n0_ := Aside0.mk (blk_below (g := gb240) (o := .cells #[.slice A0_0 l0_0.length c0_0, .slice A0_1 l0_1.length c0_1, .slice A0_2 l0_2.length c0_2] 39 (0, 0)) Bc_21 hb); have n1_ := Aside0.mk (below_step Bc_19 hb); clear BK240; clear HB; have BK240 := n0_; have HB := n1_; clear n0_ n1_; (try clear hb); (try clear hb2); (try clear hk); (try clear hi)))
      have n0_ := Aside0.mk (blk_drew BK240.out)
      have n1_ := Aside0.mk (below_drew1 HB.out)
      clear BK240
      clear HB
      have BK240 := n0_
      have HB := n1_
      clear n0_ n1_
      refine start_ (n := 15) (S := fun w' => w'.cell? ⟨gb240, 0, none⟩ = some (.slice A0_0 l0_0.length c0_0) ∧ w'.cell? ⟨gb240, 1, none⟩ = some (.slice A0_1 l0_1.length c0_1) ∧ w'.cell? ⟨gb240, 2, none⟩ = some (.slice A0_2 l0_2.length c0_2)) (ds := []) #[false, false, false, false, false, false, false, false, false, false, false, false, false, false, false] (by kernel_rfl) rfl rfl ⟨(blk_cell BK240.out 0).trans rfl, (blk_cell BK240.out 1).trans rfl, (blk_cell BK240.out 2).trans rfl⟩ (fun hHeld => ?_); refine with_tabW spec_LayoutText.tab3 spec_LayoutText.bits3 (fun HT_ HW_ => ?_)
      generalize w13.drew = w14 at BK240 HB hHeld ⊢
      refine pure_ (i := 0) (N := some 7) (v := ?_) (a' := ?_) #[true, false, false, false, false, false, false, false, false, false, false, false, false, false, false] rfl rfl (any_of HT_.out (by kernel_rfl)) (fun _ _ _ h => h) (Or.inl ⟨by rfl, ?_⟩) ?_ ?_
      rotate_left
      ·intro w'
       go_simp
       with_reducible rfl
      rotate_left
      ·simp only [Act.put, List.setIfInBounds_toArray, List.set_cons_zero, List.set_cons_succ, i64_w, i32_w]
       rfl
      refine pure_ (i := 4) (N := some 11) (v := ?_) (a' := ?_) #[true, false, false, false, true, false, false, false, false, false, false, false, false, false, false] rfl rfl (any_of HT_.out (by kernel_rfl)) (fun _ _ _ h => h) (Or.inl ⟨by rfl, ?_⟩) ?_ ?_
      rotate_left
      ·intro w'
       go_simp
       with_reducible rfl
      rotate_left
      ·simp only [Act.put, List.setIfInBounds_toArray, List.set_cons_zero, List.set_cons_succ, i64_w, i32_w]
       rfl
      refine pure_ (i := 9) (N := some 16) (v := ?_) (a' := ?_) #[true, false, false, false, true, false, false, false, false, true, false, false, false, false, false] rfl rfl (any_of HT_.out (by kernel_rfl)) (fun _ _ _ h => h) (Or.inl ⟨by rfl, ?_⟩) ?_ ?_
      rotate_left
      ·intro w'
       go_simp
       with_reducible rfl
      rotate_left
      ·simp only [Act.put, List.setIfInBounds_toArray, List.set_cons_zero, List.set_cons_succ, i64_w, i32_w]
       rfl
      refine take_ (i := 1) (N := some 8) (v := ?_) (a' := ?_) #[true, true, false, false, true, false, false, false, false, true, false, false, false, false, false] rfl rfl (take_ofW HT_.out HW_.out (by kernel_rfl)) (fun _ _ _ h => h) (Or.inl ⟨by rfl, ?_⟩) hHeld ?_ ?_
      rotate_left
      ·rintro w' ⟨s0, s1, s2⟩
       go_simp
       with_reducible rfl
      rotate_left
      ·simp only [Act.put, List.setIfInBounds_toArray, List.set_cons_zero, List.set_cons_succ, i64_w, i32_w]
       rfl
      refine take_ (i := 5) (N := some 12) (v := ?_) (a' := ?_) #[true, true, false, false, true, true, false, false, false, true, false, false, false, false, false] rfl rfl (take_ofW HT_.out HW_.out (by kernel_rfl)) (fun _ _ _ h => h) (Or.inl ⟨by rfl, ?_⟩) hHeld ?_ ?_
      rotate_left
      ·rintro w' ⟨s0, s1, s2⟩
       go_simp
       with_reducible rfl
      rotate_left
      ·simp only [Act.put, List.setIfInBounds_toArray, List.set_cons_zero, List.set_cons_succ, i64_w, i32_w]
       rfl
      refine take_ (i := 10) (N := some 17) (v := ?_) (a' := ?_) #[true, true, false, false, true, true, false, false, false, true, true, false, false, false, false] rfl rfl (take_ofW HT_.out HW_.out (by kernel_rfl)) (fun _ _ _ h => h) (Or.inl ⟨by rfl, ?_⟩) hHeld ?_ ?_
      rotate_left
      ·rintro w' ⟨s0, s1, s2⟩
       go_simp
       with_reducible rfl
      rotate_left
      ·simp only [Act.put, List.setIfInBounds_toArray, List.set_cons_zero, List.set_cons_succ, i64_w, i32_w]
       rfl
      refine one_ (i := 2) (N := some 9) #[true, true, true, false, true, true, false, false, false, true, true, false, false, false, false] rfl rfl (one_of HT_.out (by kernel_rfl)) (by decide) (fun K hK => ?_)
      refine goes_ Try.func144 (by kernel_rfl) rfl #[.slice A0_0 l0_0.length c0_0] (by rfl) rfl rfl Bc_4 ?_
      with_reducible refine (spec_l25List.calls k _ _ l0_0 t242 _ ?side1 ?side2 A4.out).mono ?_
      (case side1 => repeat (first | exact (Kd.C_below HR0_0.out HB.out) | (with_reducible refine Kd.C_alloc ?_ _) | (with_reducible refine Kd.C_drewN ?_ _) | (with_reducible refine Kd.C_drew ?_)))
      (case side2 => exact HC0_0.out)
      rintro e w15 ⟨rfl, hb⟩
      refine ⟨_, rfl, ?_⟩
      have n0_ := Aside0.mk (blk_below (g := gb240) (o := .cells #[.slice A0_0 l0_0.length c0_0, .slice A0_1 l0_1.length c0_1, .slice A0_2 l0_2.length c0_2] 39 (0, 0)) Bc_21 hb)
      have n1_ := Aside0.mk (below_step Bc_19 hb)
      clear BK240
      clear HB
      have BK240 := n0_
      have HB := n1_
      clear n0_ n1_
      (try clear hb)
      (try clear hb2)
      (try clear hk)
      (try clear hi)
      refine hK.out _ _ ⟨(blk_cell BK240.out 0).trans rfl, (blk_cell BK240.out 1).trans rfl, (blk_cell BK240.out 2).trans rfl⟩ (fun hHeld => ?_)
      clear hK K
      refine norm_ (a' := ?_) ?_ ?_
      rotate_left
      ·show Act.put _ (some 9) _ = _
       simp only [Act.put, List.setIfInBounds_toArray, List.set_cons_zero, List.set_cons_succ, i64_w, i32_w]
       rfl
      refine pure_ (i := 3) (N := some 10) (v := ?_) (a' := ?_) #[true, true, true, true, true, true, false, false, false, true, true, false, false, false, false] rfl rfl (any_of HT_.out (by kernel_rfl)) (fun _ _ _ h => h) (Or.inl ⟨by rfl, ?_⟩) ?_ ?_
      rotate_left
      ·intro w'
       go_simp
       with_reducible rfl
      rotate_left
      ·simp only [Act.put, List.setIfInBounds_toArray, List.set_cons_zero, List.set_cons_succ, i64_w, i32_w]
       rfl
      refine one_ (i := 6) (N := some 13) #[true, true, true, true, true, true, true, false, false, true, true, false, false, false, false] rfl rfl (one_of HT_.out (by kernel_rfl)) (by decide) (fun K hK => ?_)
      refine goes_ Try.func144 (by kernel_rfl) rfl #[.slice A0_1 l0_1.length c0_1] (by rfl) rfl rfl Bc_4 ?_
      with_reducible refine (spec_l25List.calls k _ _ l0_1 t243 _ ?side1 ?side2 A6.out).mono ?_
      (case side1 => repeat (first | exact (Kd.C_below HR0_1.out HB.out) | (with_reducible refine Kd.C_alloc ?_ _) | (with_reducible refine Kd.C_drewN ?_ _) | (with_reducible refine Kd.C_drew ?_)))
      (case side2 => exact HC0_1.out)
      rintro e w16 ⟨rfl, hb⟩
      refine ⟨_, rfl, ?_⟩
      have n0_ := Aside0.mk (blk_below (g := gb240) (o := .cells #[.slice A0_0 l0_0.length c0_0, .slice A0_1 l0_1.length c0_1, .slice A0_2 l0_2.length c0_2] 39 (0, 0)) Bc_21 hb)
      have n1_ := Aside0.mk (below_step Bc_19 hb)
      clear BK240
      clear HB
      have BK240 := n0_
      have HB := n1_
      clear n0_ n1_
      (try clear hb)
      (try clear hb2)
      (try clear hk)
      (try clear hi)
      refine hK.out _ _ ⟨(blk_cell BK240.out 0).trans rfl, (blk_cell BK240.out 1).trans rfl, (blk_cell BK240.out 2).trans rfl⟩ (fun hHeld => ?_)
      clear hK K
      refine norm_ (a' := ?_) ?_ ?_
      rotate_left
      ·show Act.put _ (some 13) _ = _
       simp only [Act.put, List.setIfInBounds_toArray, List.set_cons_zero, List.set_cons_succ, i64_w, i32_w]
       rfl
      refine pure_ (i := 7) (N := some 14) (v := ?_) (a' := ?_) #[true, true, true, true, true, true, true, true, false, true, true, false, false, false, false] rfl rfl (any_of HT_.out (by kernel_rfl)) (fun _ _ _ h => h) (Or.inl ⟨by rfl, ?_⟩) ?_ ?_
      rotate_left
      ·intro w'
       go_simp
       with_reducible rfl
      rotate_left
      ·simp only [Act.put, List.setIfInBounds_toArray, List.set_cons_zero, List.set_cons_succ, i64_w, i32_w]
       rfl
      refine pure_ (i := 8) (N := some 15) (v := ?_) (a' := ?_) #[true, true, true, true, true, true, true, true, true, true, true, false, false, false, false] rfl rfl (any_of HT_.out (by kernel_rfl)) (fun _ _ _ h => h) (Or.inl ⟨by rfl, ?_⟩) ?_ ?_
      rotate_left
      ·intro w'
       go_simp
       with_reducible rfl
      rotate_left
      ·simp only [Act.put, List.setIfInBounds_toArray, List.set_cons_zero, List.set_cons_succ, i64_w, i32_w]
       rfl
      refine one_ (i := 11) (N := some 18) #[true, true, true, true, true, true, true, true, true, true, true, true, false, false, false] rfl rfl (one_of HT_.out (by kernel_rfl)) (by decide) (fun K hK => ?_)
      refine goes_ Try.func144 (by kernel_rfl) rfl #[.slice A0_2 l0_2.length c0_2] (by rfl) rfl rfl Bc_4 ?_
      with_reducible refine (spec_l25List.calls k _ _ l0_2 t244 _ ?side1 ?side2 A9.out).mono ?_
      (case side1 => repeat (first | exact (Kd.C_below HR0_2.out HB.out) | (with_reducible refine Kd.C_alloc ?_ _) | (with_reducible refine Kd.C_drewN ?_ _) | (with_reducible refine Kd.C_drew ?_)))
      (case side2 => exact HC0_2.out)
      rintro e w17 ⟨rfl, hb⟩
      refine ⟨_, rfl, ?_⟩
      have n0_ := Aside0.mk (blk_below (g := gb240) (o := .cells #[.slice A0_0 l0_0.length c0_0, .slice A0_1 l0_1.length c0_1, .slice A0_2 l0_2.length c0_2] 39 (0, 0)) Bc_21 hb)
      have n1_ := Aside0.mk (below_step Bc_19 hb)
      clear BK240
      clear HB
      have BK240 := n0_
      have HB := n1_
      clear n0_ n1_
      (try clear hb)
      (try clear hb2)
      (try clear hk)
      (try clear hi)
      refine hK.out _ _ ⟨(blk_cell BK240.out 0).trans rfl, (blk_cell BK240.out 1).trans rfl, (blk_cell BK240.out 2).trans rfl⟩ (fun hHeld => ?_)
      clear hK K
      refine norm_ (a' := ?_) ?_ ?_
      rotate_left
      ·show Act.put _ (some 18) _ = _
       simp only [Act.put, List.setIfInBounds_toArray, List.set_cons_zero, List.set_cons_succ, i64_w, i32_w]
       rfl
      refine pure_ (i := 12) (N := some 19) (v := ?_) (a' := ?_) #[true, true, true, true, true, true, true, true, true, true, true, true, true, false, false] rfl rfl (any_of HT_.out (by kernel_rfl)) (fun _ _ _ h => h) (Or.inl ⟨by rfl, ?_⟩) ?_ ?_
      rotate_left
      ·intro w'
       go_simp
       with_reducible rfl
      rotate_left
      ·simp only [Act.put, List.setIfInBounds_toArray, List.set_cons_zero, List.set_cons_succ, i64_w, i32_w]
       rfl
      refine pure_ (i := 13) (N := some 2) (v := ?_) (a' := ?_) #[true, true, true, true, true, true, true, true, true, true, true, true, true, true, false] rfl rfl (any_of HT_.out (by kernel_rfl)) (fun _ _ _ h => h) (Or.inl ⟨by rfl, ?_⟩) ?_ ?_
      rotate_left
      ·intro w'
       go_simp
       with_reducible rfl
      rotate_left
      ·simp only [Act.put, List.setIfInBounds_toArray, List.set_cons_zero, List.set_cons_succ, i64_w, i32_w]
       rfl
      refine pure_ (i := 14) (N := some 3) (v := ?_) (a' := ?_) #[true, true, true, true, true, true, true, true, true, true, true, true, true, true, true] rfl rfl (any_of HT_.out (by kernel_rfl)) (fun _ _ _ h => h) (Or.inl ⟨by rfl, ?_⟩) ?_ ?_
      rotate_left
      ·intro w'
       go_simp
       with_reducible rfl
      rotate_left
      ·simp only [Act.put, List.setIfInBounds_toArray, List.set_cons_zero, List.set_cons_succ, i64_w, i32_w]
       rfl
      refine done_ (done_of HT_.out (by kernel_rfl)) ?_
      try go_wp2
      go_ret2
      exact ⟨by first | rfl | (simp [errW_none, errW_some] <;> rfl) | (simp [*, errW_none, errW_some] <;> rfl), by repeat (first | (with_reducible first | exact HB.out | apply below_alloc | apply pw_below_drewN | apply below_drew1 | refine below_set ?_ GE240.out) | exact HB.out)⟩
     ·rw [if_neg c10] at H
      exact absurd H (by simp)
    ·rw [if_neg c8] at H
     exact absurd H (by simp)
   ·rw [if_neg c7] at H
    exact absurd H (by simp)
  ·rw [if_neg c5] at H
   exact absurd H (by simp)
 ·replace c3 := Bool.eq_false_iff.mpr c3
  subst c3
  have H1 : (some ((⟨#[]⟩ : ByteArray), false)) = some (r1, r2) := by rw [if_neg (show ¬ (false = true) by decide)] at H; exact H
  clear H
  have H := H1
  clear H1
  simp only [Option.some.injEq, Prod.mk.injEq] at H
  obtain ⟨rfl, rfl⟩ := H
  go_enter Try.func99, Try.ntmps99
  go_wp2_with (first | ((with_reducible refine gate_dst (N := 1) rfl ?_); refine box_event ?hg (N := 1) ?hd (cs := #[.slice A0_0 l0_0.length c0_0, .slice A0_1 l0_1.length c0_1, .slice A0_2 l0_2.length c0_2]) (t := 39) ?hr ?_; (case hd => rfl); (case hg => rfl); (case hr => first | (go_simp; done) | (go_simp; rfl)); intro gb240 hg w18 hbox hb; have n0_ := Aside0.mk (below_step Bc_7 hb); have n1_ := Aside0.mk (hbox); have n2_ := Aside0.mk ((by rw [hg]; exact (below_size Bc_7) : w.heap.size ≤ gb240)); have n3_ := Aside0.mk ((by rw [hg]; exact (below_size Bc_7) : w.heap.size ≤ gb240)); clear HB; have HB := n0_; have BK240 := n1_; have GW240 := n2_; have GE240 := n3_; clear n0_ n1_ n2_ n3_; clear hb hbox hg; have hcz19_0 : w18.cell? ⟨gb240, 0, none⟩ = some (.slice A0_0 l0_0.length c0_0) := (blk_cell BK240.out 0).trans rfl; have hcz19_1 : w18.cell? ⟨gb240, 1, none⟩ = some (.slice A0_1 l0_1.length c0_1) := (blk_cell BK240.out 1).trans rfl; have hcz19_2 : w18.cell? ⟨gb240, 2, none⟩ = some (.slice A0_2 l0_2.length c0_2) := (blk_cell BK240.out 2).trans rfl; have hfz19_0 := blk_frozen BK240.out 0; have hfz19_1 := blk_frozen BK240.out 1; have hfz19_2 := blk_frozen BK240.out 2) | ((with_reducible refine gate_callee (f := 143) rfl ?_); refine goesL_ (some 5) rfl rfl Try.func143 (by kernel_rfl) rfl #[.agg #[.slice A0_0 l0_0.length c0_0, .slice A0_1 l0_1.length c0_1, .slice A0_2 l0_2.length c0_2]] rfl Bc_4 ?_; (with_reducible refine (spec_LayoutOk.calls k _ _ l0_0 _ _ l0_1 _ _ l0_2 false _ ?side1 ?side2 ?side3 ?side4 ?side5 ?side6 A2.out).mono ?_); (case side1 => repeat (first | exact (Kd.C_below HR0_0.out HB.out) | (with_reducible refine Kd.C_alloc ?_ _) | (with_reducible refine Kd.C_drewN ?_ _) | (with_reducible refine Kd.C_drew ?_))); (case side2 => exact HC0_0.out); (case side3 => repeat (first | exact (Kd.C_below HR0_1.out HB.out) | (with_reducible refine Kd.C_alloc ?_ _) | (with_reducible refine Kd.C_drewN ?_ _) | (with_reducible refine Kd.C_drew ?_))); (case side4 => exact HC0_1.out); (case side5 => repeat (first | exact (Kd.C_below HR0_2.out HB.out) | (with_reducible refine Kd.C_alloc ?_ _) | (with_reducible refine Kd.C_drewN ?_ _) | (with_reducible refine Kd.C_drew ?_))); (case side6 => exact HC0_2.out); rintro e w20 ⟨rfl, hb⟩; refine ⟨_, rfl, ?_⟩; have n0_ := Aside0.mk (blk_below (g := gb240) (o := .cells #[.slice A0_0 l0_0.length c0_0, .slice A0_1 l0_1.length c0_1, .slice A0_2 l0_2.length c0_2] 39 (0, 0)) Bc_21 hb); have n1_ := Aside0.mk (below_step Bc_19 hb); clear BK240; clear HB; have BK240 := n0_; have HB := n1_; clear n0_ n1_; (try clear hb); (try clear hb2); (try clear hk); (try clear hi)))
  go_ret2
  exact ⟨by first | rfl | (simp [errW_none, errW_some] <;> rfl) | (simp [*, errW_none, errW_some] <;> rfl), by repeat (first | (with_reducible first | exact HB.out | apply below_alloc | apply pw_below_drewN | apply below_drew1 | refine below_set ?_ GE240.out) | exact HB.out)⟩
end Go.Proofs.Ytjmhhgnknjfnlaa.PFnExactReadLayout
namespace Go.Proofs.Ytjmhhgnknjfnlaa.PFnExactReadLayout
open Go.RowKit Go.Proofs.YtjmhhgnknjfnlaaW.PrintWords Go.Proofs.YtjmhhgnknjfnlaaW.PrintLast Go.Proofs.YtjmhhgnknjfnlaaW.PrintMore
attribute [local go_sem] max2_int min2_int max_two min_two max_three min_three max_four min_four
set_option linter.unusedVariables false
set_option linter.unusedSimpArgs false
def spec_ReadLayout.f (k : Nat) (a0 : ByteArray) : Option (List Int × List Int × List Int × Bool) := if (a0.size : Int) > 200 then (some (([] : List Int), ([] : List Int), ([] : List Int), false)) else ((spec_l25Cut.f k a0 47).bind fun t246 => (if (t246.length : Int) = 3 then (if 0 < (t246.length : Int) then ((spec_l25Read.f k (rdOf ByteArray.empty t246 0)).bind fun t250 => (if 1 < (t246.length : Int) then ((spec_l25Read.f k (rdOf ByteArray.empty t246 1)).bind fun t254 => (if 2 < (t246.length : Int) then ((spec_l25Read.f k (rdOf ByteArray.empty t246 2)).bind fun t258 => ((spec_LayoutText.f k t250 t254 t258).bind fun bt262 => (if bt262.2 = true then (if bt262.1.toList = a0.toList then (some (t250, t254, t258, true)) else (some (([] : List Int), ([] : List Int), ([] : List Int), false))) else (some (([] : List Int), ([] : List Int), ([] : List Int), false))))) else (none))) else (none))) else (none)) else (some (([] : List Int), ([] : List Int), ([] : List Int), false))))
theorem spec_ReadLayout.mono : ∀ a0 k, LeO (spec_ReadLayout.f k a0) (spec_ReadLayout.f (k + 1) a0) := by
 intro a0 k
 unfold spec_ReadLayout.f
 repeat' first
   | (with_reducible exact spec_LayoutText.mono _ _ _ _)
   | (with_reducible exact spec_l25Cut.mono _ _ _)
   | (with_reducible exact spec_l25Read.mono _ _)
   | (with_reducible exact LeO.refl _)
   | (with_reducible exact LeO.none _)
   | (with_reducible refine LeO.ite ?_ ?_)
   | (with_reducible refine LeO.bind ?_ (fun _ => ?_))
   | exact spec_LayoutText.mono _ _ _ _
   | exact spec_l25Cut.mono _ _ _
   | exact spec_l25Read.mono _ _
   | exact LeO.none _
   | refine LeO.ite ?_ ?_
   | refine LeO.bind ?_ (fun _ => ?_)
def spec_ReadLayout.T6 : Bool × List (List Nat × List Nat) := (true, [([], []), ([0], [0]), ([1], [1]), ([2], [2]), ([], []), ([4], [4]), ([5], [5]), ([6, 3], [6]), ([], []), ([8], [8]), ([9], [9]), ([10, 7], [10]), ([3, 7, 11], [3, 7, 11]), ([], []), ([13, 12, 11, 0, 1, 2, 3, 4, 5, 6, 7, 8, 9, 10, 11, 12, 13], [12, 13])])
def spec_ReadLayout.B6 : List Nat := [0, 1, 3, 7, 0, 16, 48, 127, 0, 256, 768, 2047, 4095, 0, 16383]
theorem spec_ReadLayout.tab6 : rtab .any (opsOf Try.f43 6) = spec_ReadLayout.T6 := by kernel_rfl
theorem spec_ReadLayout.bits6 : waitsOk spec_ReadLayout.T6.2 spec_ReadLayout.B6 = true := by kernel_rfl
set_option maxHeartbeats 8000000 in
set_option maxRecDepth 100000 in
theorem spec_ReadLayout.calls (k : Nat) (a0 : ByteArray) (r1 : List Int) (r2 : List Int) (r3 : List Int) (r4 : Bool) (w : World) (h : spec_ReadLayout.f k a0 = some (r1, r2, r3, r4)) :
  Calls Try.prog 43 #[.string a0] w fun e w' => ∃ v0_ v1_ v2_ : Value, e = .returned (.tuple #[.agg #[v0_, v1_, v2_], .bool r4]) ∧ Kd.R (Kd.int .i64) 3 w' w.heap.size (fun k_ => some k_ ≠ (v1_ : Value).ownBlock ∧ some k_ ≠ (v2_ : Value).ownBlock) v0_ r1 ∧ Kd.R (Kd.int .i64) 3 w' w.heap.size (fun k_ => some k_ ≠ (v0_ : Value).ownBlock ∧ some k_ ≠ (v2_ : Value).ownBlock) v1_ r2 ∧ Kd.R (Kd.int .i64) 3 w' w.heap.size (fun k_ => some k_ ≠ (v0_ : Value).ownBlock ∧ some k_ ≠ (v1_ : Value).ownBlock) v2_ r3 ∧ Below w.heap.size w w' := by
 have hu39 := Try.underlying39
 have HB := Aside0.mk (Below.refl w.heap.size w)
 have H : (if (a0.size : Int) > 200 then (some (([] : List Int), ([] : List Int), ([] : List Int), false)) else ((spec_l25Cut.f k a0 47).bind fun t246 => (if (t246.length : Int) = 3 then (if 0 < (t246.length : Int) then ((spec_l25Read.f k (rdOf ByteArray.empty t246 0)).bind fun t250 => (if 1 < (t246.length : Int) then ((spec_l25Read.f k (rdOf ByteArray.empty t246 1)).bind fun t254 => (if 2 < (t246.length : Int) then ((spec_l25Read.f k (rdOf ByteArray.empty t246 2)).bind fun t258 => ((spec_LayoutText.f k t250 t254 t258).bind fun bt262 => (if bt262.2 = true then (if bt262.1.toList = a0.toList then (some (t250, t254, t258, true)) else (some (([] : List Int), ([] : List Int), ([] : List Int), false))) else (some (([] : List Int), ([] : List Int), ([] : List Int), false))))) else (none))) else (none))) else (none)) else (some (([] : List Int), ([] : List Int), ([] : List Int), false))))) = some (r1, r2, r3, r4) := h
 clear h
 by_cases c2 : (a0.size : Int) > 200
 ·rw [if_pos c2] at H
  have c2b0 : decide (200 < (a0.size : Int)) = true := decide_eq_true c2
  have c2b1 : decide (200 < a0.size) = true := decide_eq_true (by omega)
  clear c2
  simp only [Option.some.injEq, Prod.mk.injEq] at H
  obtain ⟨rfl, rfl, rfl, rfl⟩ := H
  go_enter Try.func43, Try.ntmps43
  go_wp2_with (first | ((with_reducible refine gate_dst (N := 2) rfl ?_); refine box_event ?hg (N := 2) ?hd (cs := #[.slice none 0 0, .slice none 0 0, .slice none 0 0]) (t := 39) ?hr ?_; (case hd => rfl); (case hg => rfl); (case hr => first | (go_simp; done) | (go_simp; rfl)); intro gb245 hg w3 hbox hb; have n0_ := Aside0.mk (below_step Bc_7 hb); have n1_ := Aside0.mk (hbox); have n2_ := Aside0.mk ((by rw [hg]; exact (below_size Bc_7) : w.heap.size ≤ gb245)); have n3_ := Aside0.mk ((by rw [hg]; exact (below_size Bc_7) : w.heap.size ≤ gb245)); clear HB; have HB := n0_; have BK245 := n1_; have GW245 := n2_; have GE245 := n3_; clear n0_ n1_ n2_ n3_; clear hb hbox hg; have hcz4_0 : w3.cell? ⟨gb245, 0, none⟩ = some (.slice none 0 0) := (blk_cell BK245.out 0).trans rfl; have hcz4_1 : w3.cell? ⟨gb245, 1, none⟩ = some (.slice none 0 0) := (blk_cell BK245.out 1).trans rfl; have hcz4_2 : w3.cell? ⟨gb245, 2, none⟩ = some (.slice none 0 0) := (blk_cell BK245.out 2).trans rfl; have hfz4_0 := blk_frozen BK245.out 0; have hfz4_1 := blk_frozen BK245.out 1; have hfz4_2 := blk_frozen BK245.out 2))
  refine bodyPost_ret (results_ct rfl _ _ gb245 39 #[.slice none 0 0, .slice none 0 0, .slice none 0 0] (0, 0) _ rfl Bc_10 Try.underlying39 rfl (by kernel_rfl)) rfl ?_
  exact ⟨_, _, _, by first | rfl | (simp [errW_none, errW_some] <;> rfl) | (simp [*, errW_none, errW_some] <;> rfl), by first | exact Kd.R_nil _ _ _ _ _ | exact Kd.N_nil _ _ _ _ _ | exact Kd.V_nil _ _ _ _ _ | exact Kd.Q_nil _ _ _ _ _ | exact Kd.S_nil _ _ _ _ _, by first | exact Kd.R_nil _ _ _ _ _ | exact Kd.N_nil _ _ _ _ _ | exact Kd.V_nil _ _ _ _ _ | exact Kd.Q_nil _ _ _ _ _ | exact Kd.S_nil _ _ _ _ _, by first | exact Kd.R_nil _ _ _ _ _ | exact Kd.N_nil _ _ _ _ _ | exact Kd.V_nil _ _ _ _ _ | exact Kd.Q_nil _ _ _ _ _ | exact Kd.S_nil _ _ _ _ _, by repeat (first | (with_reducible first | exact HB.out | apply below_alloc | apply pw_below_drewN | apply below_drew1 | refine below_set ?_ GE245.out) | exact HB.out)⟩
 ·rw [if_neg c2] at H
  have c2b0 : decide (200 < (a0.size : Int)) = false := decide_eq_false c2
  have c2b1 : decide (200 < a0.size) = false := decide_eq_false (by omega)
  clear c2
  replace H := Option.bind_eq_some_iff.mp H
  obtain ⟨t246, A50, H⟩ := H
  replace H : (if (t246.length : Int) = 3 then (if 0 < (t246.length : Int) then ((spec_l25Read.f k (rdOf ByteArray.empty t246 0)).bind fun t250 => (if 1 < (t246.length : Int) then ((spec_l25Read.f k (rdOf ByteArray.empty t246 1)).bind fun t254 => (if 2 < (t246.length : Int) then ((spec_l25Read.f k (rdOf ByteArray.empty t246 2)).bind fun t258 => ((spec_LayoutText.f k t250 t254 t258).bind fun bt262 => (if bt262.2 = true then (if bt262.1.toList = a0.toList then (some (t250, t254, t258, true)) else (some (([] : List Int), ([] : List Int), ([] : List Int), false))) else (some (([] : List Int), ([] : List Int), ([] : List Int), false))))) else (none))) else (none))) else (none)) else (some (([] : List Int), ([] : List Int), ([] : List Int), false))) = some (r1, r2, r3, r4) := H
  have A5 := Aside0.mk A50
  clear A50
  by_cases c6 : (t246.length : Int) = 3
  ·rw [if_pos c6] at H
   have c6b0 : ((t246.length : Int) == 3) = true := beq_iff_eq.mpr c6
   have c6b1 : ((t246.length : Int) != 3) = false := bne_eq_false_iff_eq.mpr c6
   clear c6
   by_cases c7 : 0 < (t246.length : Int)
   ·rw [if_pos c7] at H
    have c7b0 : decide (0 < (t246.length : Int)) = true := decide_eq_true c7
    have c7b1 : decide (0 < t246.length) = true := decide_eq_true (by omega)
    clear c7
    replace H := Option.bind_eq_some_iff.mp H
    obtain ⟨t250, A80, H⟩ := H
    replace H : (if 1 < (t246.length : Int) then ((spec_l25Read.f k (rdOf ByteArray.empty t246 1)).bind fun t254 => (if 2 < (t246.length : Int) then ((spec_l25Read.f k (rdOf ByteArray.empty t246 2)).bind fun t258 => ((spec_LayoutText.f k t250 t254 t258).bind fun bt262 => (if bt262.2 = true then (if bt262.1.toList = a0.toList then (some (t250, t254, t258, true)) else (some (([] : List Int), ([] : List Int), ([] : List Int), false))) else (some (([] : List Int), ([] : List Int), ([] : List Int), false))))) else (none))) else (none)) = some (r1, r2, r3, r4) := H
    have A8 := Aside0.mk A80
    clear A80
    by_cases c9 : 1 < (t246.length : Int)
    ·rw [if_pos c9] at H
     have c9b0 : decide (1 < (t246.length : Int)) = true := decide_eq_true c9
     have c9b1 : decide (1 < t246.length) = true := decide_eq_true (by omega)
     clear c9
     replace H := Option.bind_eq_some_iff.mp H
     obtain ⟨t254, A100, H⟩ := H
     replace H : (if 2 < (t246.length : Int) then ((spec_l25Read.f k (rdOf ByteArray.empty t246 2)).bind fun t258 => ((spec_LayoutText.f k t250 t254 t258).bind fun bt262 => (if bt262.2 = true then (if bt262.1.toList = a0.toList then (some (t250, t254, t258, true)) else (some (([] : List Int), ([] : List Int), ([] : List Int), false))) else (some (([] : List Int), ([] : List Int), ([] : List Int), false))))) else (none)) = some (r1, r2, r3, r4) := H
     have A10 := Aside0.mk A100
     clear A100
     by_cases c11 : 2 < (t246.length : Int)
     ·rw [if_pos c11] at H
      have c11b0 : decide (2 < (t246.length : Int)) = true := decide_eq_true c11
      have c11b1 : decide (2 < t246.length) = true := decide_eq_true (by omega)
      clear c11
      replace H := Option.bind_eq_some_iff.mp H
      obtain ⟨t258, A120, H⟩ := H
      replace H : ((spec_LayoutText.f k t250 t254 t258).bind fun bt262 => (if bt262.2 = true then (if bt262.1.toList = a0.toList then (some (t250, t254, t258, true)) else (some (([] : List Int), ([] : List Int), ([] : List Int), false))) else (some (([] : List Int), ([] : List Int), ([] : List Int), false)))) = some (r1, r2, r3, r4) := H
      have A12 := Aside0.mk A120
      clear A120
      replace H := Option.bind_eq_some_iff.mp H
      obtain ⟨⟨t262, t263⟩, A130, H⟩ := H
      replace H : (if t263 = true then (if t262.toList = a0.toList then (some (t250, t254, t258, true)) else (some (([] : List Int), ([] : List Int), ([] : List Int), false))) else (some (([] : List Int), ([] : List Int), ([] : List Int), false))) = some (r1, r2, r3, r4) := H
      have A13 := Aside0.mk A130
      clear A130
      by_cases c14 : t263 = true
      ·subst c14
       have H1 : (if t262.toList = a0.toList then (some (t250, t254, t258, true)) else (some (([] : List Int), ([] : List Int), ([] : List Int), false))) = some (r1, r2, r3, r4) := by rw [if_pos rfl] at H; exact H
       clear H
       have H := H1
       clear H1
       by_cases c15 : t262.toList = a0.toList
       ·rw [if_pos c15] at H
        have c15b0 : (t262.toList == a0.toList) = true := beq_iff_eq.mpr c15
        have c15b1 : (t262.toList != a0.toList) = false := bne_eq_false_iff_eq.mpr c15
        clear c15
        simp only [Option.some.injEq, Prod.mk.injEq] at H
        obtain ⟨rfl, rfl, rfl, rfl⟩ := H
        go_enter Try.func43, Try.ntmps43
        try go_wp2_with (first | ((with_reducible refine gate_dst (N := 2) rfl ?_); refine box_event ?hg (N := 2) ?hd (cs := #[.slice none 0 0, .slice none 0 0, .slice none 0 0]) (t := 39) ?hr ?_; (case hd => rfl); (case hg => rfl); (case hr => first | (go_simp; done) | (go_simp; rfl)); intro gb245 hg w16 hbox hb; have n0_ := Aside0.mk (below_step Bc_7 hb); have n1_ := Aside0.mk (hbox); have n2_ := Aside0.mk ((by rw [hg]; exact (below_size Bc_7) : w.heap.size ≤ gb245)); have n3_ := Aside0.mk ((by rw [hg]; exact (below_size Bc_7) : w.heap.size ≤ gb245)); clear HB; have HB := n0_; have BK245 := n1_; have GW245 := n2_; have GE245 := n3_; clear n0_ n1_ n2_ n3_; clear hb hbox hg) | ((with_reducible refine gate_callee (f := 97) rfl ?_); refine goesL_ (some 13) rfl rfl Try.func97 (by kernel_rfl) rfl #[.string a0, .int .u8 47] rfl Bc_4 ?_; (with_reducible refine (spec_l25Cut.calls k a0 47 t246 _ A5.out).mono ?_); rintro e w17 ⟨v247, rfl, ho0, hb⟩; refine ⟨_, rfl, ?_⟩; have n0_ := Aside0.mk (Kd.R_lower ho0 (below_size Bc_0)); have n1_ := Aside0.mk (blk_below (g := gb245) (o := .cells #[.slice none 0 0, .slice none 0 0, .slice none 0 0] 39 (0, 0)) Bc_2 hb); have n2_ := Aside0.mk (below_step Bc_0 hb); clear BK245; clear HB; have HO248 := n0_; have BK245 := n1_; have HB := n2_; clear n0_ n1_ n2_; (try clear hb); (try clear hb2); (try clear hk); (try clear hi); (try clear ho0); obtain ⟨Ao18, co18, eo18⟩ := Kd.R_slice HO248.out; subst eo18))
        have n0_ := Aside0.mk (Kd.R_drew HO248.out)
        have n1_ := Aside0.mk (blk_drew BK245.out)
        have n2_ := Aside0.mk (below_drew1 HB.out)
        clear HO248
        clear BK245
        clear HB
        have HO248 := n0_
        have BK245 := n1_
        have HB := n2_
        clear n0_ n1_ n2_
        have p249 : 0 ≤ (0 : Int) := (by omega)
        have q249 : 0 < (t246.length : Int) := of_decide_eq_true Bc_11
        obtain ⟨ad249, e249, hx249_0⟩ := Kd.at_string (Kd.R_reads' HO248.out).2.2 0 p249 q249
        cases e249
        have qi249 : (0 < t246.length) = True := eq_true (by omega)
        (try rw [show ((0 : Int)).toNat = 0 from rfl] at hx249_0)
        (try rw [Addr.add_zero'] at hx249_0)
        replace p249 := eq_true p249
        replace q249 := eq_true q249
        have p253 : 0 ≤ (1 : Int) := (by omega)
        have q253 : 1 < (t246.length : Int) := of_decide_eq_true Bc_11
        obtain ⟨ad253, e253, hx253_0⟩ := Kd.at_string (Kd.R_reads' HO248.out).2.2 1 p253 q253
        obtain rfl : ad249 = ad253 := (by injection e253)
        (try simp only [show (1 : Int).toNat = 1 from rfl, Nat.reduceMul, Nat.reduceEqDiff, Go.Addr.add, ↓reduceIte] at hx253_0)
        have qi253 : (1 < t246.length) = True := eq_true (by omega)
        (try rw [show ((1 : Int)).toNat = 1 from rfl] at hx253_0)
        replace p253 := eq_true p253
        replace q253 := eq_true q253
        have p257 : 0 ≤ (2 : Int) := (by omega)
        have q257 : 2 < (t246.length : Int) := of_decide_eq_true Bc_11
        obtain ⟨ad257, e257, hx257_0⟩ := Kd.at_string (Kd.R_reads' HO248.out).2.2 2 p257 q257
        obtain rfl : ad249 = ad257 := (by injection e257)
        (try simp only [show (2 : Int).toNat = 2 from rfl, Nat.reduceMul, Nat.reduceEqDiff, Go.Addr.add, ↓reduceIte] at hx257_0)
        have qi257 : (2 < t246.length) = True := eq_true (by omega)
        (try rw [show ((2 : Int)).toNat = 2 from rfl] at hx257_0)
        replace p257 := eq_true p257
        replace q257 := eq_true q257
        refine start_ (n := 15) (S := fun w' => w'.cell? ad249 = some (.string (rdOf ByteArray.empty t246 0)) ∧ w'.cell? ⟨ad249.block, ad249.off + 1, none⟩ = some (.string (rdOf ByteArray.empty t246 1)) ∧ w'.cell? ⟨ad249.block, ad249.off + 2, none⟩ = some (.string (rdOf ByteArray.empty t246 2))) (ds := []) #[false, false, false, false, false, false, false, false, false, false, false, false, false, false, false] (by kernel_rfl) rfl rfl ⟨hx249_0, hx253_0, hx257_0⟩ (fun hHeld => ?_); refine with_tabW spec_ReadLayout.tab6 spec_ReadLayout.bits6 (fun HT_ HW_ => ?_)
        generalize w17.drew = w19 at HO248 BK245 HB hx249_0 hx253_0 hx257_0 hHeld ⊢
        refine pure_ (i := 0) (N := some 18) (v := ?_) (a' := ?_) #[true, false, false, false, false, false, false, false, false, false, false, false, false, false, false] rfl rfl (any_of HT_.out (by kernel_rfl)) (fun _ _ _ h => h) (Or.inl ⟨by rfl, ?_⟩) ?_ ?_
        rotate_left
        ·intro w'
         go_simp
         with_reducible rfl
        rotate_left
        ·simp only [Act.put, List.setIfInBounds_toArray, List.set_cons_zero, List.set_cons_succ, i64_w, i32_w]
         rfl
        refine pure_ (i := 1) (N := some 19) (v := ?_) (a' := ?_) #[true, true, false, false, false, false, false, false, false, false, false, false, false, false, false] rfl rfl (any_of HT_.out (by kernel_rfl)) (fun _ _ _ h => h) (Or.inl ⟨by rfl, ?_⟩) ?_ ?_
        rotate_left
        ·intro w'
         go_simp
         with_reducible rfl
        rotate_left
        ·simp only [Act.put, List.setIfInBounds_toArray, List.set_cons_zero, List.set_cons_succ, i64_w, i32_w]
         rfl
        refine pure_ (i := 4) (N := some 22) (v := ?_) (a' := ?_) #[true, true, false, false, true, false, false, false, false, false, false, false, false, false, false] rfl rfl (any_of HT_.out (by kernel_rfl)) (fun _ _ _ h => h) (Or.inl ⟨by rfl, ?_⟩) ?_ ?_
        rotate_left
        ·intro w'
         go_simp
         with_reducible rfl
        rotate_left
        ·simp only [Act.put, List.setIfInBounds_toArray, List.set_cons_zero, List.set_cons_succ, i64_w, i32_w]
         rfl
        refine pure_ (i := 5) (N := some 23) (v := ?_) (a' := ?_) #[true, true, false, false, true, true, false, false, false, false, false, false, false, false, false] rfl rfl (any_of HT_.out (by kernel_rfl)) (fun _ _ _ h => h) (Or.inl ⟨by rfl, ?_⟩) ?_ ?_
        rotate_left
        ·intro w'
         go_simp
         with_reducible rfl
        rotate_left
        ·simp only [Act.put, List.setIfInBounds_toArray, List.set_cons_zero, List.set_cons_succ, i64_w, i32_w]
         rfl
        refine pure_ (i := 8) (N := some 26) (v := ?_) (a' := ?_) #[true, true, false, false, true, true, false, false, true, false, false, false, false, false, false] rfl rfl (any_of HT_.out (by kernel_rfl)) (fun _ _ _ h => h) (Or.inl ⟨by rfl, ?_⟩) ?_ ?_
        rotate_left
        ·intro w'
         go_simp
         with_reducible rfl
        rotate_left
        ·simp only [Act.put, List.setIfInBounds_toArray, List.set_cons_zero, List.set_cons_succ, i64_w, i32_w]
         rfl
        refine pure_ (i := 9) (N := some 27) (v := ?_) (a' := ?_) #[true, true, false, false, true, true, false, false, true, true, false, false, false, false, false] rfl rfl (any_of HT_.out (by kernel_rfl)) (fun _ _ _ h => h) (Or.inl ⟨by rfl, ?_⟩) ?_ ?_
        rotate_left
        ·intro w'
         go_simp
         with_reducible rfl
        rotate_left
        ·simp only [Act.put, List.setIfInBounds_toArray, List.set_cons_zero, List.set_cons_succ, i64_w, i32_w]
         rfl
        refine take_ (i := 2) (N := some 20) (v := ?_) (a' := ?_) #[true, true, true, false, true, true, false, false, true, true, false, false, false, false, false] rfl rfl (take_ofW HT_.out HW_.out (by kernel_rfl)) (fun _ _ _ h => h) (Or.inl ⟨by rfl, ?_⟩) hHeld ?_ ?_
        rotate_left
        ·rintro w' ⟨s0, s1, s2⟩
         go_simp
         with_reducible rfl
        rotate_left
        ·simp only [Act.put, List.setIfInBounds_toArray, List.set_cons_zero, List.set_cons_succ, i64_w, i32_w]
         rfl
        refine take_ (i := 6) (N := some 24) (v := ?_) (a' := ?_) #[true, true, true, false, true, true, true, false, true, true, false, false, false, false, false] rfl rfl (take_ofW HT_.out HW_.out (by kernel_rfl)) (fun _ _ _ h => h) (Or.inl ⟨by rfl, ?_⟩) hHeld ?_ ?_
        rotate_left
        ·rintro w' ⟨s0, s1, s2⟩
         go_simp
         with_reducible rfl
        rotate_left
        ·simp only [Act.put, List.setIfInBounds_toArray, List.set_cons_zero, List.set_cons_succ, i64_w, i32_w]
         rfl
        refine take_ (i := 10) (N := some 28) (v := ?_) (a' := ?_) #[true, true, true, false, true, true, true, false, true, true, true, false, false, false, false] rfl rfl (take_ofW HT_.out HW_.out (by kernel_rfl)) (fun _ _ _ h => h) (Or.inl ⟨by rfl, ?_⟩) hHeld ?_ ?_
        rotate_left
        ·rintro w' ⟨s0, s1, s2⟩
         go_simp
         with_reducible rfl
        rotate_left
        ·simp only [Act.put, List.setIfInBounds_toArray, List.set_cons_zero, List.set_cons_succ, i64_w, i32_w]
         rfl
        refine join_ (σ := Value × Value × Value × Nat) 1 #[true, true, true, true, true, true, true, true, true, true, true, true, true, true, false] (fun s_ => [(21, s_.1), (25, s_.2.1), (29, s_.2.2.1), (5, .pointer (some ⟨s_.2.2.2, 0, none⟩)), (30, .agg #[s_.1, s_.2.1, s_.2.2.1])]) (fun s_ w' => (w'.cell? ad249 = some (.string (rdOf ByteArray.empty t246 0)) ∧ w'.cell? ⟨ad249.block, ad249.off + 1, none⟩ = some (.string (rdOf ByteArray.empty t246 1)) ∧ w'.cell? ⟨ad249.block, ad249.off + 2, none⟩ = some (.string (rdOf ByteArray.empty t246 2))) ∧ (Kd.R Kd.string 9 w' w.heap.size (fun _ => True) (.slice (some ad249) t246.length co18) t246) ∧ (Kd.R (Kd.int .i64) 3 w' w.heap.size (fun k_ => some k_ ≠ (s_.2.1 : Value).ownBlock ∧ some k_ ≠ (s_.2.2.1 : Value).ownBlock) s_.1 t250) ∧ (Kd.R (Kd.int .i64) 3 w' w.heap.size (fun k_ => some k_ ≠ (s_.1 : Value).ownBlock ∧ some k_ ≠ (s_.2.2.1 : Value).ownBlock) s_.2.1 t254) ∧ (Kd.R (Kd.int .i64) 3 w' w.heap.size (fun k_ => some k_ ≠ (s_.1 : Value).ownBlock ∧ some k_ ≠ (s_.2.1 : Value).ownBlock) s_.2.2.1 t258) ∧ (w'.heap[gb245]? = some (.cells #[.slice none 0 0, .slice none 0 0, .slice none 0 0] 39 (0, 0))) ∧ (w'.heap[s_.2.2.2]? = some (.cells #[.slice none 0 0, .slice none 0 0, .slice none 0 0] 39 (0, 0))) ∧ (w.heap.size ≤ s_.2.2.2) ∧ (w.heap.size ≤ s_.2.2.2) ∧ (gb245 ≠ s_.2.2.2) ∧ (s_.2.2.2 ≠ gb245) ∧ (Below w.heap.size w w')) ?_ ?_
        rotate_left
        ·intro hCont
         refine two_ (i := 3) (j := 13) (Ni := some 21) (Nj := some 5) #[true, true, true, true, true, true, true, false, true, true, true, false, false, false, false] #[true, true, true, false, true, true, true, false, true, true, true, false, false, true, false] rfl rfl rfl rfl (two_of HT_.out (by kernel_rfl)) (by decide) (by decide) (fun K hK => ?_) (fun K hK => ?_)
         ·skip
          refine goes_ Try.func98 (by kernel_rfl) rfl #[.string (rdOf ByteArray.empty t246 0)] (by rfl) rfl rfl Bc_4 ?_
          with_reducible refine (spec_l25Read.calls k (rdOf ByteArray.empty t246 0) t250 _ A8.out).mono ?_
          rintro e w20 ⟨v251, rfl, ho0, hb⟩
          have HS0_ := (hb.cell (World.block_lt_of_cell? _ _ (hHeld.1))).trans (hHeld.1)
          have HS1_ := (hb.cell (World.block_lt_of_cell? _ _ (hHeld.2.1))).trans (hHeld.2.1)
          have HS2_ := (hb.cell (World.block_lt_of_cell? _ _ (hHeld.2.2))).trans (hHeld.2.2)
          refine ⟨_, rfl, ?_⟩
          have n0_ := Aside0.mk (Kd.R_below Bc_5 hb)
          have n1_ := Aside0.mk (Kd.R_lower ho0 (below_size Bc_0))
          have n2_ := Aside0.mk (blk_below (g := gb245) (o := .cells #[.slice none 0 0, .slice none 0 0, .slice none 0 0] 39 (0, 0)) Bc_2 hb)
          have n3_ := Aside0.mk (below_step Bc_0 hb)
          clear HO248
          clear BK245
          clear HB
          have HO248 := n0_
          have HO252 := n1_
          have BK245 := n2_
          have HB := n3_
          clear n0_ n1_ n2_ n3_
          (try clear hb)
          (try clear hb2)
          (try clear hk)
          (try clear hi)
          (try clear ho0)
          refine hK.out _ _ ⟨HS0_, HS1_, HS2_⟩ (fun hHeld => ?_)
          clear hK K
          refine norm_ (a' := ?_) ?_ ?_
          rotate_left
          ·show Act.put _ (some 21) _ = _
           simp only [Act.put, List.setIfInBounds_toArray, List.set_cons_zero, List.set_cons_succ, i64_w, i32_w]
           rfl
          refine two_ (i := 7) (j := 13) (Ni := some 25) (Nj := some 5) #[true, true, true, true, true, true, true, true, true, true, true, false, false, false, false] #[true, true, true, true, true, true, true, false, true, true, true, false, false, true, false] rfl rfl rfl rfl (two_of HT_.out (by kernel_rfl)) (by decide) (by decide) (fun K hK => ?_) (fun K hK => ?_)
          ·skip
           refine goes_ Try.func98 (by kernel_rfl) rfl #[.string (rdOf ByteArray.empty t246 1)] (by rfl) rfl rfl Bc_4 ?_
           with_reducible refine (spec_l25Read.calls k (rdOf ByteArray.empty t246 1) t254 _ A10.out).mono ?_
           rintro e w21 ⟨v255, rfl, ho0, hb⟩
           have HS0_ := (hb.cell (World.block_lt_of_cell? _ _ (hHeld.1))).trans (hHeld.1)
           have HS1_ := (hb.cell (World.block_lt_of_cell? _ _ (hHeld.2.1))).trans (hHeld.2.1)
           have HS2_ := (hb.cell (World.block_lt_of_cell? _ _ (hHeld.2.2))).trans (hHeld.2.2)
           refine ⟨_, rfl, ?_⟩
           have n0_ := Aside0.mk (Kd.R_below Bc_5 hb)
           have n1_ := Aside0.mk (Kd.R_elder' Bc_6 (Kd.R_base ho0) hb)
           have n2_ := Aside0.mk (Kd.R_lower (Kd.R_new' ho0 (Kd.R_lt Bc_6)) (below_size Bc_0))
           have n3_ := Aside0.mk (blk_below (g := gb245) (o := .cells #[.slice none 0 0, .slice none 0 0, .slice none 0 0] 39 (0, 0)) Bc_2 hb)
           have n4_ := Aside0.mk (below_step Bc_0 hb)
           clear HO248
           clear HO252
           clear BK245
           clear HB
           have HO248 := n0_
           have HO252 := n1_
           have HO256 := n2_
           have BK245 := n3_
           have HB := n4_
           clear n0_ n1_ n2_ n3_ n4_
           (try clear hb)
           (try clear hb2)
           (try clear hk)
           (try clear hi)
           (try clear ho0)
           refine hK.out _ _ ⟨HS0_, HS1_, HS2_⟩ (fun hHeld => ?_)
           clear hK K
           refine norm_ (a' := ?_) ?_ ?_
           rotate_left
           ·show Act.put _ (some 25) _ = _
            simp only [Act.put, List.setIfInBounds_toArray, List.set_cons_zero, List.set_cons_succ, i64_w, i32_w]
            rfl
           refine two_ (i := 11) (j := 13) (Ni := some 29) (Nj := some 5) #[true, true, true, true, true, true, true, true, true, true, true, true, false, false, false] #[true, true, true, true, true, true, true, true, true, true, true, false, false, true, false] rfl rfl rfl rfl (two_of HT_.out (by kernel_rfl)) (by decide) (by decide) (fun K hK => ?_) (fun K hK => ?_)
           ·skip
            refine goes_ Try.func98 (by kernel_rfl) rfl #[.string (rdOf ByteArray.empty t246 2)] (by rfl) rfl rfl Bc_4 ?_
            with_reducible refine (spec_l25Read.calls k (rdOf ByteArray.empty t246 2) t258 _ A12.out).mono ?_
            rintro e w22 ⟨v259, rfl, ho0, hb⟩
            have HS0_ := (hb.cell (World.block_lt_of_cell? _ _ (hHeld.1))).trans (hHeld.1)
            have HS1_ := (hb.cell (World.block_lt_of_cell? _ _ (hHeld.2.1))).trans (hHeld.2.1)
            have HS2_ := (hb.cell (World.block_lt_of_cell? _ _ (hHeld.2.2))).trans (hHeld.2.2)
            refine ⟨_, rfl, ?_⟩
            have n0_ := Aside0.mk (Kd.R_below Bc_5 hb)
            have n1_ := Aside0.mk (Kd.R_elder' Bc_6 (Kd.R_base ho0) hb)
            have n2_ := Aside0.mk (Kd.R_elder' Bc_9 (Kd.R_base ho0) hb)
            have n3_ := Aside0.mk (Kd.R_lower (Kd.R_new' (Kd.R_new' ho0 (Kd.R_lt Bc_6)) (Kd.R_lt Bc_9)) (below_size Bc_0))
            have n4_ := Aside0.mk (blk_below (g := gb245) (o := .cells #[.slice none 0 0, .slice none 0 0, .slice none 0 0] 39 (0, 0)) Bc_2 hb)
            have n5_ := Aside0.mk (below_step Bc_0 hb)
            clear HO248
            clear HO252
            clear HO256
            clear BK245
            clear HB
            have HO248 := n0_
            have HO252 := n1_
            have HO256 := n2_
            have HO260 := n3_
            have BK245 := n4_
            have HB := n5_
            clear n0_ n1_ n2_ n3_ n4_ n5_
            (try clear hb)
            (try clear hb2)
            (try clear hk)
            (try clear hi)
            (try clear ho0)
            obtain ⟨Ao23, co23, eo23⟩ := Kd.R_slice HO260.out
            (first | subst eo23 | (injection eo23 with f1_ f2_ f3_; have f4_ := f1_.symm; have f5_ := f3_.symm; clear f1_ f2_ f3_; subst f4_; subst f5_))
            obtain ⟨Ao24, co24, eo24⟩ := Kd.R_slice HO256.out
            (first | subst eo24 | (injection eo24 with f1_ f2_ f3_; have f4_ := f1_.symm; have f5_ := f3_.symm; clear f1_ f2_ f3_; subst f4_; subst f5_))
            obtain ⟨Ao25, co25, eo25⟩ := Kd.R_slice HO252.out
            (first | subst eo25 | (injection eo25 with f1_ f2_ f3_; have f4_ := f1_.symm; have f5_ := f3_.symm; clear f1_ f2_ f3_; subst f4_; subst f5_))
            refine hK.out _ _ ⟨HS0_, HS1_, HS2_⟩ (fun hHeld => ?_)
            clear hK K
            refine norm_ (a' := ?_) ?_ ?_
            rotate_left
            ·show Act.put _ (some 29) _ = _
             simp only [Act.put, List.setIfInBounds_toArray, List.set_cons_zero, List.set_cons_succ, i64_w, i32_w]
             rfl
            refine pure_ (i := 12) (N := some 30) (v := ?_) (a' := ?_) #[true, true, true, true, true, true, true, true, true, true, true, true, true, false, false] rfl rfl (any_of HT_.out (by kernel_rfl)) (fun _ _ _ h => h) (Or.inl ⟨by rfl, ?_⟩) ?_ ?_
            rotate_left
            ·intro w'
             go_simp
             with_reducible rfl
            rotate_left
            ·simp only [Act.put, List.setIfInBounds_toArray, List.set_cons_zero, List.set_cons_succ, i64_w, i32_w]
             rfl
            refine one_ (i := 13) (N := some 5) #[true, true, true, true, true, true, true, true, true, true, true, true, true, true, false] rfl rfl (one_of HT_.out (by kernel_rfl)) (by decide) (fun K hK => ?_)
            refine box_step ?hg (N := 5) ?hd (cs := #[.slice none 0 0, .slice none 0 0, .slice none 0 0]) (t := 39) ?hr ?_; (case hd => rfl); (case hg => rfl); (case hr => first | (go_simp; done) | (go_simp; rfl))
            intro gb261 hg w26 hbox hb
            have HS0_ := (hb.cell (World.block_lt_of_cell? _ _ (hHeld.1))).trans (hHeld.1)
            have HS1_ := (hb.cell (World.block_lt_of_cell? _ _ (hHeld.2.1))).trans (hHeld.2.1)
            have HS2_ := (hb.cell (World.block_lt_of_cell? _ _ (hHeld.2.2))).trans (hHeld.2.2)
            have n0_ := Aside0.mk (Kd.R_below Bc_5 hb)
            have n1_ := Aside0.mk (Kd.R_below Bc_6 hb)
            have n2_ := Aside0.mk (Kd.R_below Bc_9 hb)
            have n3_ := Aside0.mk (Kd.R_below Bc_31 hb)
            have n4_ := Aside0.mk (blk_below (g := gb245) (o := .cells #[.slice none 0 0, .slice none 0 0, .slice none 0 0] 39 (0, 0)) Bc_2 hb)
            have n5_ := Aside0.mk (below_step Bc_0 hb)
            have n6_ := Aside0.mk (hbox)
            have n7_ := Aside0.mk ((by rw [hg]; exact (below_size Bc_0) : w.heap.size ≤ gb261))
            have n8_ := Aside0.mk ((by rw [hg]; exact (below_size Bc_0) : w.heap.size ≤ gb261))
            have n9_ := Aside0.mk ((by rw [hg]; exact Nat.ne_of_lt (blk_lt (g := gb245) (o := .cells #[.slice none 0 0, .slice none 0 0, .slice none 0 0] 39 (0, 0)) Bc_2) : gb245 ≠ gb261))
            have n10_ := Aside0.mk ((by rw [hg]; exact Nat.ne_of_gt (blk_lt (g := gb245) (o := .cells #[.slice none 0 0, .slice none 0 0, .slice none 0 0] 39 (0, 0)) Bc_2) : gb261 ≠ gb245))
            clear HO248
            clear HO252
            clear HO256
            clear HO260
            clear BK245
            clear HB
            have HO248 := n0_
            have HO252 := n1_
            have HO256 := n2_
            have HO260 := n3_
            have BK245 := n4_
            have HB := n5_
            have BK261 := n6_
            have GW261 := n7_
            have GE261 := n8_
            have NB245_261 := n9_
            have NB261_245 := n10_
            clear n0_ n1_ n2_ n3_ n4_ n5_ n6_ n7_ n8_ n9_ n10_
            clear hb hbox hg
            refine hK.out _ _ ⟨HS0_, HS1_, HS2_⟩ (fun hHeld => ?_)
            clear hK K
            refine norm_ (a' := ?_) ?_ ?_
            rotate_left
            ·show Act.put _ (some 5) _ = _
             simp only [Act.put, List.setIfInBounds_toArray, List.set_cons_zero, List.set_cons_succ, i64_w, i32_w]
             rfl
            exact norm_ Bc_16 (hCont (.slice Ao25 t250.length co25, .slice Ao24 t254.length co24, .slice Ao23 t258.length co23, gb261) _ ⟨hHeld, Bc_5, Bc_12, Bc_13, Bc_14, Bc_2, Bc_8, GW261.out, GE261.out, NB245_261.out, NB261_245.out, Bc_1⟩)
           ·skip
            refine box_step ?hg (N := 5) ?hd (cs := #[.slice none 0 0, .slice none 0 0, .slice none 0 0]) (t := 39) ?hr ?_; (case hd => rfl); (case hg => rfl); (case hr => first | (go_simp; done) | (go_simp; rfl))
            intro gb261 hg w22 hbox hb
            have HS0_ := (hb.cell (World.block_lt_of_cell? _ _ (hHeld.1))).trans (hHeld.1)
            have HS1_ := (hb.cell (World.block_lt_of_cell? _ _ (hHeld.2.1))).trans (hHeld.2.1)
            have HS2_ := (hb.cell (World.block_lt_of_cell? _ _ (hHeld.2.2))).trans (hHeld.2.2)
            have n0_ := Aside0.mk (Kd.R_below Bc_5 hb)
            have n1_ := Aside0.mk (Kd.R_below Bc_6 hb)
            have n2_ := Aside0.mk (Kd.R_below Bc_9 hb)
            have n3_ := Aside0.mk (blk_below (g := gb245) (o := .cells #[.slice none 0 0, .slice none 0 0, .slice none 0 0] 39 (0, 0)) Bc_2 hb)
            have n4_ := Aside0.mk (below_step Bc_0 hb)
            have n5_ := Aside0.mk (hbox)
            have n6_ := Aside0.mk ((by rw [hg]; exact (below_size Bc_0) : w.heap.size ≤ gb261))
            have n7_ := Aside0.mk ((by rw [hg]; exact (below_size Bc_0) : w.heap.size ≤ gb261))
            have n8_ := Aside0.mk ((by rw [hg]; exact Nat.ne_of_lt (blk_lt (g := gb245) (o := .cells #[.slice none 0 0, .slice none 0 0, .slice none 0 0] 39 (0, 0)) Bc_2) : gb245 ≠ gb261))
            have n9_ := Aside0.mk ((by rw [hg]; exact Nat.ne_of_gt (blk_lt (g := gb245) (o := .cells #[.slice none 0 0, .slice none 0 0, .slice none 0 0] 39 (0, 0)) Bc_2) : gb261 ≠ gb245))
            clear HO248
            clear HO252
            clear HO256
            clear BK245
            clear HB
            have HO248 := n0_
            have HO252 := n1_
            have HO256 := n2_
            have BK245 := n3_
            have HB := n4_
            have BK261 := n5_
            have GW261 := n6_
            have GE261 := n7_
            have NB245_261 := n8_
            have NB261_245 := n9_
            clear n0_ n1_ n2_ n3_ n4_ n5_ n6_ n7_ n8_ n9_
            clear hb hbox hg
            refine hK.out _ _ ⟨HS0_, HS1_, HS2_⟩ (fun hHeld => ?_)
            clear hK K
            refine norm_ (a' := ?_) ?_ ?_
            rotate_left
            ·show Act.put _ (some 5) _ = _
             simp only [Act.put, List.setIfInBounds_toArray, List.set_cons_zero, List.set_cons_succ, i64_w, i32_w]
             rfl
            refine one_ (i := 11) (N := some 29) #[true, true, true, true, true, true, true, true, true, true, true, true, false, true, false] rfl rfl (one_of HT_.out (by kernel_rfl)) (by decide) (fun K hK => ?_)
            refine goes_ Try.func98 (by kernel_rfl) rfl #[.string (rdOf ByteArray.empty t246 2)] (by rfl) rfl rfl Bc_4 ?_
            with_reducible refine (spec_l25Read.calls k (rdOf ByteArray.empty t246 2) t258 _ A12.out).mono ?_
            rintro e w23 ⟨v259, rfl, ho0, hb⟩
            have HS0_ := (hb.cell (World.block_lt_of_cell? _ _ (hHeld.1))).trans (hHeld.1)
            have HS1_ := (hb.cell (World.block_lt_of_cell? _ _ (hHeld.2.1))).trans (hHeld.2.1)
            have HS2_ := (hb.cell (World.block_lt_of_cell? _ _ (hHeld.2.2))).trans (hHeld.2.2)
            refine ⟨_, rfl, ?_⟩
            have n0_ := Aside0.mk (Kd.R_below Bc_5 hb)
            have n1_ := Aside0.mk (Kd.R_elder' Bc_6 (Kd.R_base ho0) hb)
            have n2_ := Aside0.mk (Kd.R_elder' Bc_9 (Kd.R_base ho0) hb)
            have n3_ := Aside0.mk (Kd.R_lower (Kd.R_new' (Kd.R_new' ho0 (Kd.R_lt Bc_6)) (Kd.R_lt Bc_9)) (below_size Bc_1))
            have n4_ := Aside0.mk (blk_below (g := gb245) (o := .cells #[.slice none 0 0, .slice none 0 0, .slice none 0 0] 39 (0, 0)) Bc_2 hb)
            have n5_ := Aside0.mk (blk_below (g := gb261) (o := .cells #[.slice none 0 0, .slice none 0 0, .slice none 0 0] 39 (0, 0)) Bc_8 hb)
            have n6_ := Aside0.mk (below_step Bc_1 hb)
            clear HO248
            clear HO252
            clear HO256
            clear BK245
            clear BK261
            clear HB
            have HO248 := n0_
            have HO252 := n1_
            have HO256 := n2_
            have HO260 := n3_
            have BK245 := n4_
            have BK261 := n5_
            have HB := n6_
            clear n0_ n1_ n2_ n3_ n4_ n5_ n6_
            (try clear hb)
            (try clear hb2)
            (try clear hk)
            (try clear hi)
            (try clear ho0)
            obtain ⟨Ao24, co24, eo24⟩ := Kd.R_slice HO260.out
            (first | subst eo24 | (injection eo24 with f1_ f2_ f3_; have f4_ := f1_.symm; have f5_ := f3_.symm; clear f1_ f2_ f3_; subst f4_; subst f5_))
            obtain ⟨Ao25, co25, eo25⟩ := Kd.R_slice HO256.out
            (first | subst eo25 | (injection eo25 with f1_ f2_ f3_; have f4_ := f1_.symm; have f5_ := f3_.symm; clear f1_ f2_ f3_; subst f4_; subst f5_))
            obtain ⟨Ao26, co26, eo26⟩ := Kd.R_slice HO252.out
            (first | subst eo26 | (injection eo26 with f1_ f2_ f3_; have f4_ := f1_.symm; have f5_ := f3_.symm; clear f1_ f2_ f3_; subst f4_; subst f5_))
            refine hK.out _ _ ⟨HS0_, HS1_, HS2_⟩ (fun hHeld => ?_)
            clear hK K
            refine norm_ (a' := ?_) ?_ ?_
            rotate_left
            ·show Act.put _ (some 29) _ = _
             simp only [Act.put, List.setIfInBounds_toArray, List.set_cons_zero, List.set_cons_succ, i64_w, i32_w]
             rfl
            refine pure_ (i := 12) (N := some 30) (v := ?_) (a' := ?_) #[true, true, true, true, true, true, true, true, true, true, true, true, true, true, false] rfl rfl (any_of HT_.out (by kernel_rfl)) (fun _ _ _ h => h) (Or.inl ⟨by rfl, ?_⟩) ?_ ?_
            rotate_left
            ·intro w'
             go_simp
             with_reducible rfl
            rotate_left
            ·simp only [Act.put, List.setIfInBounds_toArray, List.set_cons_zero, List.set_cons_succ, i64_w, i32_w]
             rfl
            exact norm_ Bc_16 (hCont (.slice Ao26 t250.length co26, .slice Ao25 t254.length co25, .slice Ao24 t258.length co24, gb261) _ ⟨hHeld, Bc_5, Bc_12, Bc_13, Bc_14, Bc_2, Bc_8, GW261.out, GE261.out, NB245_261.out, NB261_245.out, Bc_1⟩)
          ·skip
           refine box_step ?hg (N := 5) ?hd (cs := #[.slice none 0 0, .slice none 0 0, .slice none 0 0]) (t := 39) ?hr ?_; (case hd => rfl); (case hg => rfl); (case hr => first | (go_simp; done) | (go_simp; rfl))
           intro gb261 hg w21 hbox hb
           have HS0_ := (hb.cell (World.block_lt_of_cell? _ _ (hHeld.1))).trans (hHeld.1)
           have HS1_ := (hb.cell (World.block_lt_of_cell? _ _ (hHeld.2.1))).trans (hHeld.2.1)
           have HS2_ := (hb.cell (World.block_lt_of_cell? _ _ (hHeld.2.2))).trans (hHeld.2.2)
           have n0_ := Aside0.mk (Kd.R_below Bc_5 hb)
           have n1_ := Aside0.mk (Kd.R_below Bc_6 hb)
           have n2_ := Aside0.mk (blk_below (g := gb245) (o := .cells #[.slice none 0 0, .slice none 0 0, .slice none 0 0] 39 (0, 0)) Bc_2 hb)
           have n3_ := Aside0.mk (below_step Bc_0 hb)
           have n4_ := Aside0.mk (hbox)
           have n5_ := Aside0.mk ((by rw [hg]; exact (below_size Bc_0) : w.heap.size ≤ gb261))
           have n6_ := Aside0.mk ((by rw [hg]; exact (below_size Bc_0) : w.heap.size ≤ gb261))
           have n7_ := Aside0.mk ((by rw [hg]; exact Nat.ne_of_lt (blk_lt (g := gb245) (o := .cells #[.slice none 0 0, .slice none 0 0, .slice none 0 0] 39 (0, 0)) Bc_2) : gb245 ≠ gb261))
           have n8_ := Aside0.mk ((by rw [hg]; exact Nat.ne_of_gt (blk_lt (g := gb245) (o := .cells #[.slice none 0 0, .slice none 0 0, .slice none 0 0] 39 (0, 0)) Bc_2) : gb261 ≠ gb245))
           clear HO248
           clear HO252
           clear BK245
           clear HB
           have HO248 := n0_
           have HO252 := n1_
           have BK245 := n2_
           have HB := n3_
           have BK261 := n4_
           have GW261 := n5_
           have GE261 := n6_
           have NB245_261 := n7_
           have NB261_245 := n8_
           clear n0_ n1_ n2_ n3_ n4_ n5_ n6_ n7_ n8_
           clear hb hbox hg
           refine hK.out _ _ ⟨HS0_, HS1_, HS2_⟩ (fun hHeld => ?_)
           clear hK K
           refine norm_ (a' := ?_) ?_ ?_
           rotate_left
           ·show Act.put _ (some 5) _ = _
            simp only [Act.put, List.setIfInBounds_toArray, List.set_cons_zero, List.set_cons_succ, i64_w, i32_w]
            rfl
           refine one_ (i := 7) (N := some 25) #[true, true, true, true, true, true, true, true, true, true, true, false, false, true, false] rfl rfl (one_of HT_.out (by kernel_rfl)) (by decide) (fun K hK => ?_)
           refine goes_ Try.func98 (by kernel_rfl) rfl #[.string (rdOf ByteArray.empty t246 1)] (by rfl) rfl rfl Bc_4 ?_
           with_reducible refine (spec_l25Read.calls k (rdOf ByteArray.empty t246 1) t254 _ A10.out).mono ?_
           rintro e w22 ⟨v255, rfl, ho0, hb⟩
           have HS0_ := (hb.cell (World.block_lt_of_cell? _ _ (hHeld.1))).trans (hHeld.1)
           have HS1_ := (hb.cell (World.block_lt_of_cell? _ _ (hHeld.2.1))).trans (hHeld.2.1)
           have HS2_ := (hb.cell (World.block_lt_of_cell? _ _ (hHeld.2.2))).trans (hHeld.2.2)
           refine ⟨_, rfl, ?_⟩
           have n0_ := Aside0.mk (Kd.R_below Bc_5 hb)
           have n1_ := Aside0.mk (Kd.R_elder' Bc_6 (Kd.R_base ho0) hb)
           have n2_ := Aside0.mk (Kd.R_lower (Kd.R_new' ho0 (Kd.R_lt Bc_6)) (below_size Bc_1))
           have n3_ := Aside0.mk (blk_below (g := gb245) (o := .cells #[.slice none 0 0, .slice none 0 0, .slice none 0 0] 39 (0, 0)) Bc_2 hb)
           have n4_ := Aside0.mk (blk_below (g := gb261) (o := .cells #[.slice none 0 0, .slice none 0 0, .slice none 0 0] 39 (0, 0)) Bc_8 hb)
           have n5_ := Aside0.mk (below_step Bc_1 hb)
           clear HO248
           clear HO252
           clear BK245
           clear BK261
           clear HB
           have HO248 := n0_
           have HO252 := n1_
           have HO256 := n2_
           have BK245 := n3_
           have BK261 := n4_
           have HB := n5_
           clear n0_ n1_ n2_ n3_ n4_ n5_
           (try clear hb)
           (try clear hb2)
           (try clear hk)
           (try clear hi)
           (try clear ho0)
           refine hK.out _ _ ⟨HS0_, HS1_, HS2_⟩ (fun hHeld => ?_)
           clear hK K
           refine norm_ (a' := ?_) ?_ ?_
           rotate_left
           ·show Act.put _ (some 25) _ = _
            simp only [Act.put, List.setIfInBounds_toArray, List.set_cons_zero, List.set_cons_succ, i64_w, i32_w]
            rfl
           refine one_ (i := 11) (N := some 29) #[true, true, true, true, true, true, true, true, true, true, true, true, false, true, false] rfl rfl (one_of HT_.out (by kernel_rfl)) (by decide) (fun K hK => ?_)
           refine goes_ Try.func98 (by kernel_rfl) rfl #[.string (rdOf ByteArray.empty t246 2)] (by rfl) rfl rfl Bc_4 ?_
           with_reducible refine (spec_l25Read.calls k (rdOf ByteArray.empty t246 2) t258 _ A12.out).mono ?_
           rintro e w23 ⟨v259, rfl, ho0, hb⟩
           have HS0_ := (hb.cell (World.block_lt_of_cell? _ _ (hHeld.1))).trans (hHeld.1)
           have HS1_ := (hb.cell (World.block_lt_of_cell? _ _ (hHeld.2.1))).trans (hHeld.2.1)
           have HS2_ := (hb.cell (World.block_lt_of_cell? _ _ (hHeld.2.2))).trans (hHeld.2.2)
           refine ⟨_, rfl, ?_⟩
           have n0_ := Aside0.mk (Kd.R_below Bc_5 hb)
           have n1_ := Aside0.mk (Kd.R_elder' Bc_6 (Kd.R_base ho0) hb)
           have n2_ := Aside0.mk (Kd.R_elder' Bc_9 (Kd.R_base ho0) hb)
           have n3_ := Aside0.mk (Kd.R_lower (Kd.R_new' (Kd.R_new' ho0 (Kd.R_lt Bc_6)) (Kd.R_lt Bc_9)) (below_size Bc_1))
           have n4_ := Aside0.mk (blk_below (g := gb245) (o := .cells #[.slice none 0 0, .slice none 0 0, .slice none 0 0] 39 (0, 0)) Bc_2 hb)
           have n5_ := Aside0.mk (blk_below (g := gb261) (o := .cells #[.slice none 0 0, .slice none 0 0, .slice none 0 0] 39 (0, 0)) Bc_8 hb)
           have n6_ := Aside0.mk (below_step Bc_1 hb)
           clear HO248
           clear HO252
           clear HO256
           clear BK245
           clear BK261
           clear HB
           have HO248 := n0_
           have HO252 := n1_
           have HO256 := n2_
           have HO260 := n3_
           have BK245 := n4_
           have BK261 := n5_
           have HB := n6_
           clear n0_ n1_ n2_ n3_ n4_ n5_ n6_
           (try clear hb)
           (try clear hb2)
           (try clear hk)
           (try clear hi)
           (try clear ho0)
           obtain ⟨Ao24, co24, eo24⟩ := Kd.R_slice HO260.out
           (first | subst eo24 | (injection eo24 with f1_ f2_ f3_; have f4_ := f1_.symm; have f5_ := f3_.symm; clear f1_ f2_ f3_; subst f4_; subst f5_))
           obtain ⟨Ao25, co25, eo25⟩ := Kd.R_slice HO256.out
           (first | subst eo25 | (injection eo25 with f1_ f2_ f3_; have f4_ := f1_.symm; have f5_ := f3_.symm; clear f1_ f2_ f3_; subst f4_; subst f5_))
           obtain ⟨Ao26, co26, eo26⟩ := Kd.R_slice HO252.out
           (first | subst eo26 | (injection eo26 with f1_ f2_ f3_; have f4_ := f1_.symm; have f5_ := f3_.symm; clear f1_ f2_ f3_; subst f4_; subst f5_))
           refine hK.out _ _ ⟨HS0_, HS1_, HS2_⟩ (fun hHeld => ?_)
           clear hK K
           refine norm_ (a' := ?_) ?_ ?_
           rotate_left
           ·show Act.put _ (some 29) _ = _
            simp only [Act.put, List.setIfInBounds_toArray, List.set_cons_zero, List.set_cons_succ, i64_w, i32_w]
            rfl
           refine pure_ (i := 12) (N := some 30) (v := ?_) (a' := ?_) #[true, true, true, true, true, true, true, true, true, true, true, true, true, true, false] rfl rfl (any_of HT_.out (by kernel_rfl)) (fun _ _ _ h => h) (Or.inl ⟨by rfl, ?_⟩) ?_ ?_
           rotate_left
           ·intro w'
            go_simp
            with_reducible rfl
           rotate_left
           ·simp only [Act.put, List.setIfInBounds_toArray, List.set_cons_zero, List.set_cons_succ, i64_w, i32_w]
            rfl
           exact norm_ Bc_16 (hCont (.slice Ao26 t250.length co26, .slice Ao25 t254.length co25, .slice Ao24 t258.length co24, gb261) _ ⟨hHeld, Bc_5, Bc_12, Bc_13, Bc_14, Bc_2, Bc_8, GW261.out, GE261.out, NB245_261.out, NB261_245.out, Bc_1⟩)
         ·skip
          refine box_step ?hg (N := 5) ?hd (cs := #[.slice none 0 0, .slice none 0 0, .slice none 0 0]) (t := 39) ?hr ?_; (case hd => rfl); (case hg => rfl); (case hr => first | (go_simp; done) | (go_simp; rfl))
          intro gb261 hg w20 hbox hb
          have HS0_ := (hb.cell (World.block_lt_of_cell? _ _ (hHeld.1))).trans (hHeld.1)
          have HS1_ := (hb.cell (World.block_lt_of_cell? _ _ (hHeld.2.1))).trans (hHeld.2.1)
          have HS2_ := (hb.cell (World.block_lt_of_cell? _ _ (hHeld.2.2))).trans (hHeld.2.2)
          have n0_ := Aside0.mk (Kd.R_below Bc_5 hb)
          have n1_ := Aside0.mk (blk_below (g := gb245) (o := .cells #[.slice none 0 0, .slice none 0 0, .slice none 0 0] 39 (0, 0)) Bc_2 hb)
          have n2_ := Aside0.mk (below_step Bc_0 hb)
          have n3_ := Aside0.mk (hbox)
          have n4_ := Aside0.mk ((by rw [hg]; exact (below_size Bc_0) : w.heap.size ≤ gb261))
          have n5_ := Aside0.mk ((by rw [hg]; exact (below_size Bc_0) : w.heap.size ≤ gb261))
          have n6_ := Aside0.mk ((by rw [hg]; exact Nat.ne_of_lt (blk_lt (g := gb245) (o := .cells #[.slice none 0 0, .slice none 0 0, .slice none 0 0] 39 (0, 0)) Bc_2) : gb245 ≠ gb261))
          have n7_ := Aside0.mk ((by rw [hg]; exact Nat.ne_of_gt (blk_lt (g := gb245) (o := .cells #[.slice none 0 0, .slice none 0 0, .slice none 0 0] 39 (0, 0)) Bc_2) : gb261 ≠ gb245))
          clear HO248
          clear BK245
          clear HB
          have HO248 := n0_
          have BK245 := n1_
          have HB := n2_
          have BK261 := n3_
          have GW261 := n4_
          have GE261 := n5_
          have NB245_261 := n6_
          have NB261_245 := n7_
          clear n0_ n1_ n2_ n3_ n4_ n5_ n6_ n7_
          clear hb hbox hg
          refine hK.out _ _ ⟨HS0_, HS1_, HS2_⟩ (fun hHeld => ?_)
          clear hK K
          refine norm_ (a' := ?_) ?_ ?_
          rotate_left
          ·show Act.put _ (some 5) _ = _
           simp only [Act.put, List.setIfInBounds_toArray, List.set_cons_zero, List.set_cons_succ, i64_w, i32_w]
           rfl
          refine one_ (i := 3) (N := some 21) #[true, true, true, true, true, true, true, false, true, true, true, false, false, true, false] rfl rfl (one_of HT_.out (by kernel_rfl)) (by decide) (fun K hK => ?_)
          refine goes_ Try.func98 (by kernel_rfl) rfl #[.string (rdOf ByteArray.empty t246 0)] (by rfl) rfl rfl Bc_4 ?_
          with_reducible refine (spec_l25Read.calls k (rdOf ByteArray.empty t246 0) t250 _ A8.out).mono ?_
          rintro e w21 ⟨v251, rfl, ho0, hb⟩
          have HS0_ := (hb.cell (World.block_lt_of_cell? _ _ (hHeld.1))).trans (hHeld.1)
          have HS1_ := (hb.cell (World.block_lt_of_cell? _ _ (hHeld.2.1))).trans (hHeld.2.1)
          have HS2_ := (hb.cell (World.block_lt_of_cell? _ _ (hHeld.2.2))).trans (hHeld.2.2)
          refine ⟨_, rfl, ?_⟩
          have n0_ := Aside0.mk (Kd.R_below Bc_5 hb)
          have n1_ := Aside0.mk (Kd.R_lower ho0 (below_size Bc_1))
          have n2_ := Aside0.mk (blk_below (g := gb245) (o := .cells #[.slice none 0 0, .slice none 0 0, .slice none 0 0] 39 (0, 0)) Bc_2 hb)
          have n3_ := Aside0.mk (blk_below (g := gb261) (o := .cells #[.slice none 0 0, .slice none 0 0, .slice none 0 0] 39 (0, 0)) Bc_8 hb)
          have n4_ := Aside0.mk (below_step Bc_1 hb)
          clear HO248
          clear BK245
          clear BK261
          clear HB
          have HO248 := n0_
          have HO252 := n1_
          have BK245 := n2_
          have BK261 := n3_
          have HB := n4_
          clear n0_ n1_ n2_ n3_ n4_
          (try clear hb)
          (try clear hb2)
          (try clear hk)
          (try clear hi)
          (try clear ho0)
          refine hK.out _ _ ⟨HS0_, HS1_, HS2_⟩ (fun hHeld => ?_)
          clear hK K
          refine norm_ (a' := ?_) ?_ ?_
          rotate_left
          ·show Act.put _ (some 21) _ = _
           simp only [Act.put, List.setIfInBounds_toArray, List.set_cons_zero, List.set_cons_succ, i64_w, i32_w]
           rfl
          refine one_ (i := 7) (N := some 25) #[true, true, true, true, true, true, true, true, true, true, true, false, false, true, false] rfl rfl (one_of HT_.out (by kernel_rfl)) (by decide) (fun K hK => ?_)
          refine goes_ Try.func98 (by kernel_rfl) rfl #[.string (rdOf ByteArray.empty t246 1)] (by rfl) rfl rfl Bc_4 ?_
          with_reducible refine (spec_l25Read.calls k (rdOf ByteArray.empty t246 1) t254 _ A10.out).mono ?_
          rintro e w22 ⟨v255, rfl, ho0, hb⟩
          have HS0_ := (hb.cell (World.block_lt_of_cell? _ _ (hHeld.1))).trans (hHeld.1)
          have HS1_ := (hb.cell (World.block_lt_of_cell? _ _ (hHeld.2.1))).trans (hHeld.2.1)
          have HS2_ := (hb.cell (World.block_lt_of_cell? _ _ (hHeld.2.2))).trans (hHeld.2.2)
          refine ⟨_, rfl, ?_⟩
          have n0_ := Aside0.mk (Kd.R_below Bc_5 hb)
          have n1_ := Aside0.mk (Kd.R_elder' Bc_6 (Kd.R_base ho0) hb)
          have n2_ := Aside0.mk (Kd.R_lower (Kd.R_new' ho0 (Kd.R_lt Bc_6)) (below_size Bc_1))
          have n3_ := Aside0.mk (blk_below (g := gb245) (o := .cells #[.slice none 0 0, .slice none 0 0, .slice none 0 0] 39 (0, 0)) Bc_2 hb)
          have n4_ := Aside0.mk (blk_below (g := gb261) (o := .cells #[.slice none 0 0, .slice none 0 0, .slice none 0 0] 39 (0, 0)) Bc_8 hb)
          have n5_ := Aside0.mk (below_step Bc_1 hb)
          clear HO248
          clear HO252
          clear BK245
          clear BK261
          clear HB
          have HO248 := n0_
          have HO252 := n1_
          have HO256 := n2_
          have BK245 := n3_
          have BK261 := n4_
          have HB := n5_
          clear n0_ n1_ n2_ n3_ n4_ n5_
          (try clear hb)
          (try clear hb2)
          (try clear hk)
          (try clear hi)
          (try clear ho0)
          refine hK.out _ _ ⟨HS0_, HS1_, HS2_⟩ (fun hHeld => ?_)
          clear hK K
          refine norm_ (a' := ?_) ?_ ?_
          rotate_left
          ·show Act.put _ (some 25) _ = _
           simp only [Act.put, List.setIfInBounds_toArray, List.set_cons_zero, List.set_cons_succ, i64_w, i32_w]
           rfl
          refine one_ (i := 11) (N := some 29) #[true, true, true, true, true, true, true, true, true, true, true, true, false, true, false] rfl rfl (one_of HT_.out (by kernel_rfl)) (by decide) (fun K hK => ?_)
          refine goes_ Try.func98 (by kernel_rfl) rfl #[.string (rdOf ByteArray.empty t246 2)] (by rfl) rfl rfl Bc_4 ?_
          with_reducible refine (spec_l25Read.calls k (rdOf ByteArray.empty t246 2) t258 _ A12.out).mono ?_
          rintro e w23 ⟨v259, rfl, ho0, hb⟩
          have HS0_ := (hb.cell (World.block_lt_of_cell? _ _ (hHeld.1))).trans (hHeld.1)
          have HS1_ := (hb.cell (World.block_lt_of_cell? _ _ (hHeld.2.1))).trans (hHeld.2.1)
          have HS2_ := (hb.cell (World.block_lt_of_cell? _ _ (hHeld.2.2))).trans (hHeld.2.2)
          refine ⟨_, rfl, ?_⟩
          have n0_ := Aside0.mk (Kd.R_below Bc_5 hb)
          have n1_ := Aside0.mk (Kd.R_elder' Bc_6 (Kd.R_base ho0) hb)
          have n2_ := Aside0.mk (Kd.R_elder' Bc_9 (Kd.R_base ho0) hb)
          have n3_ := Aside0.mk (Kd.R_lower (Kd.R_new' (Kd.R_new' ho0 (Kd.R_lt Bc_6)) (Kd.R_lt Bc_9)) (below_size Bc_1))
          have n4_ := Aside0.mk (blk_below (g := gb245) (o := .cells #[.slice none 0 0, .slice none 0 0, .slice none 0 0] 39 (0, 0)) Bc_2 hb)
          have n5_ := Aside0.mk (blk_below (g := gb261) (o := .cells #[.slice none 0 0, .slice none 0 0, .slice none 0 0] 39 (0, 0)) Bc_8 hb)
          have n6_ := Aside0.mk (below_step Bc_1 hb)
          clear HO248
          clear HO252
          clear HO256
          clear BK245
          clear BK261
          clear HB
          have HO248 := n0_
          have HO252 := n1_
          have HO256 := n2_
          have HO260 := n3_
          have BK245 := n4_
          have BK261 := n5_
          have HB := n6_
          clear n0_ n1_ n2_ n3_ n4_ n5_ n6_
          (try clear hb)
          (try clear hb2)
          (try clear hk)
          (try clear hi)
          (try clear ho0)
          obtain ⟨Ao24, co24, eo24⟩ := Kd.R_slice HO260.out
          (first | subst eo24 | (injection eo24 with f1_ f2_ f3_; have f4_ := f1_.symm; have f5_ := f3_.symm; clear f1_ f2_ f3_; subst f4_; subst f5_))
          obtain ⟨Ao25, co25, eo25⟩ := Kd.R_slice HO256.out
          (first | subst eo25 | (injection eo25 with f1_ f2_ f3_; have f4_ := f1_.symm; have f5_ := f3_.symm; clear f1_ f2_ f3_; subst f4_; subst f5_))
          obtain ⟨Ao26, co26, eo26⟩ := Kd.R_slice HO252.out
          (first | subst eo26 | (injection eo26 with f1_ f2_ f3_; have f4_ := f1_.symm; have f5_ := f3_.symm; clear f1_ f2_ f3_; subst f4_; subst f5_))
          refine hK.out _ _ ⟨HS0_, HS1_, HS2_⟩ (fun hHeld => ?_)
          clear hK K
          refine norm_ (a' := ?_) ?_ ?_
          rotate_left
          ·show Act.put _ (some 29) _ = _
           simp only [Act.put, List.setIfInBounds_toArray, List.set_cons_zero, List.set_cons_succ, i64_w, i32_w]
           rfl
          refine pure_ (i := 12) (N := some 30) (v := ?_) (a' := ?_) #[true, true, true, true, true, true, true, true, true, true, true, true, true, true, false] rfl rfl (any_of HT_.out (by kernel_rfl)) (fun _ _ _ h => h) (Or.inl ⟨by rfl, ?_⟩) ?_ ?_
          rotate_left
          ·intro w'
           go_simp
           with_reducible rfl
          rotate_left
          ·simp only [Act.put, List.setIfInBounds_toArray, List.set_cons_zero, List.set_cons_succ, i64_w, i32_w]
           rfl
          exact norm_ Bc_16 (hCont (.slice Ao26 t250.length co26, .slice Ao25 t254.length co25, .slice Ao24 t258.length co24, gb261) _ ⟨hHeld, Bc_5, Bc_12, Bc_13, Bc_14, Bc_2, Bc_8, GW261.out, GE261.out, NB245_261.out, NB261_245.out, Bc_1⟩)
        rintro ⟨v251, v255, v259, gb261⟩ w27 ⟨hS_, h0_, h1_, h2_, h3_, h4_, h5_, h6_, h7_, h8_, h9_, h10_⟩
        have n0_ : Aside0 (Kd.R Kd.string 9 w27 w.heap.size (fun _ => True) (.slice (some ad249) t246.length co18) t246) := ⟨h0_⟩
        have n1_ : Aside0 (Kd.R (Kd.int .i64) 3 w27 w.heap.size (fun k_ => some k_ ≠ (v255 : Value).ownBlock ∧ some k_ ≠ (v259 : Value).ownBlock) v251 t250) := ⟨h1_⟩
        have n2_ : Aside0 (Kd.R (Kd.int .i64) 3 w27 w.heap.size (fun k_ => some k_ ≠ (v251 : Value).ownBlock ∧ some k_ ≠ (v259 : Value).ownBlock) v255 t254) := ⟨h2_⟩
        have n3_ : Aside0 (Kd.R (Kd.int .i64) 3 w27 w.heap.size (fun k_ => some k_ ≠ (v251 : Value).ownBlock ∧ some k_ ≠ (v255 : Value).ownBlock) v259 t258) := ⟨h3_⟩
        have n4_ : Aside0 (w27.heap[gb245]? = some (.cells #[.slice none 0 0, .slice none 0 0, .slice none 0 0] 39 (0, 0))) := ⟨h4_⟩
        have n5_ : Aside0 (w27.heap[gb261]? = some (.cells #[.slice none 0 0, .slice none 0 0, .slice none 0 0] 39 (0, 0))) := ⟨h5_⟩
        have n6_ : Aside0 (w.heap.size ≤ gb261) := ⟨h6_⟩
        have n7_ : Aside0 (w.heap.size ≤ gb261) := ⟨h7_⟩
        have n8_ : Aside0 (gb245 ≠ gb261) := ⟨h8_⟩
        have n9_ : Aside0 (gb261 ≠ gb245) := ⟨h9_⟩
        have n10_ : Aside0 (Below w.heap.size w w27) := ⟨h10_⟩
        clear HO248
        clear BK245
        clear HB
        clear h0_ h1_ h2_ h3_ h4_ h5_ h6_ h7_ h8_ h9_ h10_
        have HO248 := n0_
        have HO252 := n1_
        have HO256 := n2_
        have HO260 := n3_
        have BK245 := n4_
        have BK261 := n5_
        have GW261 := n6_
        have GE261 := n7_
        have NB245_261 := n8_
        have NB261_245 := n9_
        have HB := n10_
        clear n0_ n1_ n2_ n3_ n4_ n5_ n6_ n7_ n8_ n9_ n10_
        have hHeld : w27.cell? ad249 = some (.string (rdOf ByteArray.empty t246 0)) ∧ w27.cell? ⟨ad249.block, ad249.off + 1, none⟩ = some (.string (rdOf ByteArray.empty t246 1)) ∧ w27.cell? ⟨ad249.block, ad249.off + 2, none⟩ = some (.string (rdOf ByteArray.empty t246 2)) := hS_
        obtain ⟨Ao28, co28, eo28⟩ := Kd.R_slice HO260.out
        (first | subst eo28 | (injection eo28 with f1_ f2_ f3_; have f4_ := f1_.symm; have f5_ := f3_.symm; clear f1_ f2_ f3_; subst f4_; subst f5_))
        obtain ⟨Ao29, co29, eo29⟩ := Kd.R_slice HO256.out
        (first | subst eo29 | (injection eo29 with f1_ f2_ f3_; have f4_ := f1_.symm; have f5_ := f3_.symm; clear f1_ f2_ f3_; subst f4_; subst f5_))
        obtain ⟨Ao30, co30, eo30⟩ := Kd.R_slice HO252.out
        (first | subst eo30 | (injection eo30 with f1_ f2_ f3_; have f4_ := f1_.symm; have f5_ := f3_.symm; clear f1_ f2_ f3_; subst f4_; subst f5_))
        refine norm_ (a' := ?_) ?_ ?_
        rotate_left
        ·simp only [putAll, Act.put, List.setIfInBounds_toArray, List.set_cons_zero, List.set_cons_succ]
         rfl
        refine one_ (i := 14) (N := none) #[true, true, true, true, true, true, true, true, true, true, true, true, true, true, true] rfl rfl (one_of HT_.out (by kernel_rfl)) (by decide) (fun K hK => ?_)
        have hs31 : w27.cell? ⟨gb261, 0, none⟩ = some (.slice none 0 0) := (blk_cell BK261.out 0).trans rfl
        have hfs31 := blk_frozen BK261.out 0
        have hns31_0 := NB245_261.out
        have hms31_0 := NB261_245.out
        have hs32 : w27.cell? ⟨gb261, 1, none⟩ = some (.slice none 0 0) := (blk_cell BK261.out 1).trans rfl
        have hfs32 := blk_frozen BK261.out 1
        have hns32_0 := NB245_261.out
        have hms32_0 := NB261_245.out
        have hs33 : w27.cell? ⟨gb261, 2, none⟩ = some (.slice none 0 0) := (blk_cell BK261.out 2).trans rfl
        have hfs33 := blk_frozen BK261.out 2
        have hns33_0 := NB245_261.out
        have hms33_0 := NB261_245.out
        refine skip_ (w1 := ?_) (by rfl) rfl ?_ ?_
        rotate_left
        ·go_simp
         rfl
        refine hK.out _ _ ⟨((cell_far (p := ⟨gb261, _, none⟩) Bc_3 _).trans (((cell_far (p := ⟨gb261, _, none⟩) Bc_3 _).trans (((cell_far (p := ⟨gb261, _, none⟩) Bc_3 _).trans (hHeld.1)))))), ((cell_far (p := ⟨gb261, _, none⟩) Bc_3 _).trans (((cell_far (p := ⟨gb261, _, none⟩) Bc_3 _).trans (((cell_far (p := ⟨gb261, _, none⟩) Bc_3 _).trans (hHeld.2.1)))))), ((cell_far (p := ⟨gb261, _, none⟩) Bc_3 _).trans (((cell_far (p := ⟨gb261, _, none⟩) Bc_3 _).trans (((cell_far (p := ⟨gb261, _, none⟩) Bc_3 _).trans (hHeld.2.2))))))⟩ (fun hHeld => ?_)
        clear hK K
        refine done_ (done_of HT_.out (by kernel_rfl)) ?_
        have hnb34 := NB261_245.out
        have hnc34 := NB245_261.out
        have hcz35_0 : w27.cell? ⟨gb261, 0, none⟩ = some (.slice none 0 0) := (blk_cell BK261.out 0).trans rfl
        have hcz35_1 : w27.cell? ⟨gb261, 1, none⟩ = some (.slice none 0 0) := (blk_cell BK261.out 1).trans rfl
        have hcz35_2 : w27.cell? ⟨gb261, 2, none⟩ = some (.slice none 0 0) := (blk_cell BK261.out 2).trans rfl
        have hfz35_0 := blk_frozen BK261.out 0
        have hfz35_1 := blk_frozen BK261.out 1
        have hfz35_2 := blk_frozen BK261.out 2
        try go_wp2_with (first | ((with_reducible refine gate_callee (f := 99) rfl ?_); refine goesL_ (some 33) rfl rfl Try.func99 (by kernel_rfl) rfl #[.agg #[.slice Ao30 t250.length co30, .slice Ao29 t254.length co29, .slice Ao28 t258.length co28]] rfl Bc_4 ?_; (with_reducible refine (spec_LayoutText.calls k _ _ t250 _ _ t254 _ _ t258 t262 true _ ?side1 ?side2 ?side3 ?side4 ?side5 ?side6 A13.out).mono ?_); (case side1 => refine (Kd.R_reads' (e := 3) (base := w.heap.size) (ok := fun k_ => (some k_ ≠ (.slice Ao29 t254.length co29 : Value).ownBlock ∧ some k_ ≠ (.slice Ao28 t258.length co28 : Value).ownBlock)) (n := t250.length) (c := co30) ?_).2.2; exact Bc_22); (case side2 => exact (Kd.R_reads' HO252.out).2.1); (case side3 => refine (Kd.R_reads' (e := 3) (base := w.heap.size) (ok := fun k_ => (some k_ ≠ (.slice Ao30 t250.length co30 : Value).ownBlock ∧ some k_ ≠ (.slice Ao28 t258.length co28 : Value).ownBlock)) (n := t254.length) (c := co29) ?_).2.2; exact Bc_23); (case side4 => exact (Kd.R_reads' HO256.out).2.1); (case side5 => refine (Kd.R_reads' (e := 3) (base := w.heap.size) (ok := fun k_ => (some k_ ≠ (.slice Ao30 t250.length co30 : Value).ownBlock ∧ some k_ ≠ (.slice Ao29 t254.length co29 : Value).ownBlock)) (n := t258.length) (c := co28) ?_).2.2; exact Bc_24); (case side6 => exact (Kd.R_reads' HO260.out).2.1); rintro e w36 ⟨rfl, hb⟩; refine ⟨_, rfl, ?_⟩; have n0_ := Aside0.mk (Kd.R_below (by (with_reducible repeat (first | apply Kd.R_alloc | apply Kd.R_drewN | apply Kd.R_drew)); exact (Kd.R_mono (Kd.R_far (p := ⟨gb261, 2, none⟩) (Kd.R_far (p := ⟨gb261, 1, none⟩) (Kd.R_far (p := ⟨gb261, 0, none⟩) (Kd.R_types HO248.out BK261.out (by decide)) (fun _ hk => hk.2) (.slice Ao30 t250.length co30)) (fun _ hk => hk.2) (.slice Ao29 t254.length co29)) (fun _ hk => hk.2) (.slice Ao28 t258.length co28)) (fun _ h_ => h_.1))) hb); have n1_ := Aside0.mk (Kd.R_below Bc_22 hb); have n2_ := Aside0.mk (Kd.R_below Bc_23 hb); have n3_ := Aside0.mk (Kd.R_below Bc_24 hb); have n4_ := Aside0.mk (blk_below (g := gb245) (o := .cells #[.slice none 0 0, .slice none 0 0, .slice none 0 0] 39 (0, 0)) Bc_15 hb); have n5_ := Aside0.mk (blk_below (g := gb261) (o := .cells #[.slice Ao30 t250.length co30, .slice Ao29 t254.length co29, .slice Ao28 t258.length co28] 39 (0, 0)) (by (with_reducible repeat (first | refine blk_drewN ?_ _ | refine blk_drew ?_ | refine blk_alloc ?_ _)); refine blk_put (cs := #[.slice Ao30 t250.length co30, .slice Ao29 t254.length co29, .slice none 0 0]) ?_ 2 _ rfl; (with_reducible repeat (first | refine blk_drewN ?_ _ | refine blk_drew ?_ | refine blk_alloc ?_ _)); refine blk_put (cs := #[.slice Ao30 t250.length co30, .slice none 0 0, .slice none 0 0]) ?_ 1 _ rfl; (with_reducible repeat (first | refine blk_drewN ?_ _ | refine blk_drew ?_ | refine blk_alloc ?_ _)); refine blk_put (cs := #[.slice none 0 0, .slice none 0 0, .slice none 0 0]) ?_ 0 _ rfl; (with_reducible repeat (first | refine blk_drewN ?_ _ | refine blk_drew ?_ | refine blk_alloc ?_ _)); exact BK261.out) hb); have n6_ := Aside0.mk (below_step Bc_1 hb); clear HO248; clear HO252; clear HO256; clear HO260; clear BK245; clear BK261; clear HB; have HO248 := n0_; have HO252 := n1_; have HO256 := n2_; have HO260 := n3_; have BK245 := n4_; have BK261 := n5_; have HB := n6_; clear n0_ n1_ n2_ n3_ n4_ n5_ n6_; (try clear hb); (try clear hb2); (try clear hk); (try clear hi); have hcz37_0 : w36.cell? ⟨gb261, 0, none⟩ = some (.slice Ao30 t250.length co30) := (blk_cell BK261.out 0).trans rfl; have hcz37_1 : w36.cell? ⟨gb261, 1, none⟩ = some (.slice Ao29 t254.length co29) := (blk_cell BK261.out 1).trans rfl; have hcz37_2 : w36.cell? ⟨gb261, 2, none⟩ = some (.slice Ao28 t258.length co28) := (blk_cell BK261.out 2).trans rfl; have hfz37_0 := blk_frozen BK261.out 0; have hfz37_1 := blk_frozen BK261.out 1; have hfz37_2 := blk_frozen BK261.out 2; have hcz38_0 : w36.cell? ⟨gb245, 0, none⟩ = some (.slice none 0 0) := (blk_cell BK245.out 0).trans rfl; have hcz38_1 : w36.cell? ⟨gb245, 1, none⟩ = some (.slice none 0 0) := (blk_cell BK245.out 1).trans rfl; have hcz38_2 : w36.cell? ⟨gb245, 2, none⟩ = some (.slice none 0 0) := (blk_cell BK245.out 2).trans rfl; have hfz38_0 := blk_frozen BK245.out 0; have hfz38_1 := blk_frozen BK245.out 1; have hfz38_2 := blk_frozen BK245.out 2))
        refine bodyPost_ret (results_ct rfl _ _ gb245 39 #[.slice Ao30 t250.length co30, .slice Ao29 t254.length co29, .slice Ao28 t258.length co28] (0, 0) _ rfl (by (with_reducible repeat (first | refine blk_drewN ?_ _ | refine blk_drew ?_ | refine blk_alloc ?_ _)); refine blk_put (cs := #[.slice Ao30 t250.length co30, .slice Ao29 t254.length co29, .slice none 0 0]) ?_ 2 _ rfl; (with_reducible repeat (first | refine blk_drewN ?_ _ | refine blk_drew ?_ | refine blk_alloc ?_ _)); refine blk_put (cs := #[.slice Ao30 t250.length co30, .slice none 0 0, .slice none 0 0]) ?_ 1 _ rfl; (with_reducible repeat (first | refine blk_drewN ?_ _ | refine blk_drew ?_ | refine blk_alloc ?_ _)); refine blk_put (cs := #[.slice none 0 0, .slice none 0 0, .slice none 0 0]) ?_ 0 _ rfl; (with_reducible repeat (first | refine blk_drewN ?_ _ | refine blk_drew ?_ | refine blk_alloc ?_ _)); exact BK245.out) Try.underlying39 rfl (by kernel_rfl)) rfl ?_
        exact ⟨_, _, _, by first | rfl | (simp [errW_none, errW_some] <;> rfl) | (simp [*, errW_none, errW_some] <;> rfl), by (with_reducible repeat (first | apply Kd.R_alloc | apply Kd.R_drewN | apply Kd.R_drew)); exact Kd.R_mono (Kd.R_far (p := ⟨gb245, 2, none⟩) (Kd.R_far (p := ⟨gb245, 1, none⟩) (Kd.R_far (p := ⟨gb245, 0, none⟩) (Kd.R_types HO252.out BK245.out (by decide)) (fun _ hk => hk.2) (.slice Ao30 t250.length co30)) (fun _ hk => hk.2) (.slice Ao29 t254.length co29)) (fun _ hk => hk.2) (.slice Ao28 t258.length co28)) (fun _ hk => ⟨hk.1.1, hk.1.2⟩), by (with_reducible repeat (first | apply Kd.R_alloc | apply Kd.R_drewN | apply Kd.R_drew)); exact Kd.R_mono (Kd.R_far (p := ⟨gb245, 2, none⟩) (Kd.R_far (p := ⟨gb245, 1, none⟩) (Kd.R_far (p := ⟨gb245, 0, none⟩) (Kd.R_types HO256.out BK245.out (by decide)) (fun _ hk => hk.2) (.slice Ao30 t250.length co30)) (fun _ hk => hk.2) (.slice Ao29 t254.length co29)) (fun _ hk => hk.2) (.slice Ao28 t258.length co28)) (fun _ hk => ⟨hk.1.1, hk.1.2⟩), by (with_reducible repeat (first | apply Kd.R_alloc | apply Kd.R_drewN | apply Kd.R_drew)); exact Kd.R_mono (Kd.R_far (p := ⟨gb245, 2, none⟩) (Kd.R_far (p := ⟨gb245, 1, none⟩) (Kd.R_far (p := ⟨gb245, 0, none⟩) (Kd.R_types HO260.out BK245.out (by decide)) (fun _ hk => hk.2) (.slice Ao30 t250.length co30)) (fun _ hk => hk.2) (.slice Ao29 t254.length co29)) (fun _ hk => hk.2) (.slice Ao28 t258.length co28)) (fun _ hk => ⟨hk.1.1, hk.1.2⟩), by repeat (first | (with_reducible first | exact HB.out | apply below_alloc | apply pw_below_drewN | apply below_drew1 | refine below_set ?_ GE245.out | refine below_set ?_ GE261.out) | exact HB.out)⟩
       ·rw [if_neg c15] at H
        have c15b0 : (t262.toList == a0.toList) = false := beq_eq_false_iff_ne.mpr c15
        have c15b1 : (t262.toList != a0.toList) = true := bne_iff_ne.mpr c15
        simp only [Option.some.injEq, Prod.mk.injEq] at H
        obtain ⟨rfl, rfl, rfl, rfl⟩ := H
        go_enter Try.func43, Try.ntmps43
        try go_wp2_with (first | ((with_reducible refine gate_dst (N := 2) rfl ?_); refine box_event ?hg (N := 2) ?hd (cs := #[.slice none 0 0, .slice none 0 0, .slice none 0 0]) (t := 39) ?hr ?_; (case hd => rfl); (case hg => rfl); (case hr => first | (go_simp; done) | (go_simp; rfl)); intro gb245 hg w39 hbox hb; have n0_ := Aside0.mk (below_step Bc_7 hb); have n1_ := Aside0.mk (hbox); have n2_ := Aside0.mk ((by rw [hg]; exact (below_size Bc_7) : w.heap.size ≤ gb245)); have n3_ := Aside0.mk ((by rw [hg]; exact (below_size Bc_7) : w.heap.size ≤ gb245)); clear HB; have HB := n0_; have BK245 := n1_; have GW245 := n2_; have GE245 := n3_; clear n0_ n1_ n2_ n3_; clear hb hbox hg) | ((with_reducible refine gate_callee (f := 97) rfl ?_); refine goesL_ (some 13) rfl rfl Try.func97 (by kernel_rfl) rfl #[.string a0, .int .u8 47] rfl Bc_4 ?_; (with_reducible refine (spec_l25Cut.calls k a0 47 t246 _ A5.out).mono ?_); rintro e w40 ⟨v247, rfl, ho0, hb⟩; refine ⟨_, rfl, ?_⟩; have n0_ := Aside0.mk (Kd.R_lower ho0 (below_size Bc_0)); have n1_ := Aside0.mk (blk_below (g := gb245) (o := .cells #[.slice none 0 0, .slice none 0 0, .slice none 0 0] 39 (0, 0)) Bc_2 hb); have n2_ := Aside0.mk (below_step Bc_0 hb); clear BK245; clear HB; have HO248 := n0_; have BK245 := n1_; have HB := n2_; clear n0_ n1_ n2_; (try clear hb); (try clear hb2); (try clear hk); (try clear hi); (try clear ho0); obtain ⟨Ao41, co41, eo41⟩ := Kd.R_slice HO248.out; subst eo41))
        have n0_ := Aside0.mk (Kd.R_drew HO248.out)
        have n1_ := Aside0.mk (blk_drew BK245.out)
        have n2_ := Aside0.mk (below_drew1 HB.out)
        clear HO248
        clear BK245
        clear HB
        have HO248 := n0_
        have BK245 := n1_
        have HB := n2_
        clear n0_ n1_ n2_
        have p249 : 0 ≤ (0 : Int) := (by omega)
        have q249 : 0 < (t246.length : Int) := of_decide_eq_true Bc_11
        obtain ⟨ad249, e249, hx249_0⟩ := Kd.at_string (Kd.R_reads' HO248.out).2.2 0 p249 q249
        cases e249
        have qi249 : (0 < t246.length) = True := eq_true (by omega)
        (try rw [show ((0 : Int)).toNat = 0 from rfl] at hx249_0)
        (try rw [Addr.add_zero'] at hx249_0)
        replace p249 := eq_true p249
        replace q249 := eq_true q249
        have p253 : 0 ≤ (1 : Int) := (by omega)
        have q253 : 1 < (t246.length : Int) := of_decide_eq_true Bc_11
        obtain ⟨ad253, e253, hx253_0⟩ := Kd.at_string (Kd.R_reads' HO248.out).2.2 1 p253 q253
        obtain rfl : ad249 = ad253 := (by injection e253)
        (try simp only [show (1 : Int).toNat = 1 from rfl, Nat.reduceMul, Nat.reduceEqDiff, Go.Addr.add, ↓reduceIte] at hx253_0)
        have qi253 : (1 < t246.length) = True := eq_true (by omega)
        (try rw [show ((1 : Int)).toNat = 1 from rfl] at hx253_0)
        replace p253 := eq_true p253
        replace q253 := eq_true q253
        have p257 : 0 ≤ (2 : Int) := (by omega)
        have q257 : 2 < (t246.length : Int) := of_decide_eq_true Bc_11
        obtain ⟨ad257, e257, hx257_0⟩ := Kd.at_string (Kd.R_reads' HO248.out).2.2 2 p257 q257
        obtain rfl : ad249 = ad257 := (by injection e257)
        (try simp only [show (2 : Int).toNat = 2 from rfl, Nat.reduceMul, Nat.reduceEqDiff, Go.Addr.add, ↓reduceIte] at hx257_0)
        have qi257 : (2 < t246.length) = True := eq_true (by omega)
        (try rw [show ((2 : Int)).toNat = 2 from rfl] at hx257_0)
        replace p257 := eq_true p257
        replace q257 := eq_true q257
        refine start_ (n := 15) (S := fun w' => w'.cell? ad249 = some (.string (rdOf ByteArray.empty t246 0)) ∧ w'.cell? ⟨ad249.block, ad249.off + 1, none⟩ = some (.string (rdOf ByteArray.empty t246 1)) ∧ w'.cell? ⟨ad249.block, ad249.off + 2, none⟩ = some (.string (rdOf ByteArray.empty t246 2))) (ds := []) #[false, false, false, false, false, false, false, false, false, false, false, false, false, false, false] (by kernel_rfl) rfl rfl ⟨hx249_0, hx253_0, hx257_0⟩ (fun hHeld => ?_); refine with_tabW spec_ReadLayout.tab6 spec_ReadLayout.bits6 (fun HT_ HW_ => ?_)
        generalize w40.drew = w42 at HO248 BK245 HB hx249_0 hx253_0 hx257_0 hHeld ⊢
        refine pure_ (i := 0) (N := some 18) (v := ?_) (a' := ?_) #[true, false, false, false, false, false, false, false, false, false, false, false, false, false, false] rfl rfl (any_of HT_.out (by kernel_rfl)) (fun _ _ _ h => h) (Or.inl ⟨by rfl, ?_⟩) ?_ ?_
        rotate_left
        ·intro w'
         go_simp
         with_reducible rfl
        rotate_left
        ·simp only [Act.put, List.setIfInBounds_toArray, List.set_cons_zero, List.set_cons_succ, i64_w, i32_w]
         rfl
        refine pure_ (i := 1) (N := some 19) (v := ?_) (a' := ?_) #[true, true, false, false, false, false, false, false, false, false, false, false, false, false, false] rfl rfl (any_of HT_.out (by kernel_rfl)) (fun _ _ _ h => h) (Or.inl ⟨by rfl, ?_⟩) ?_ ?_
        rotate_left
        ·intro w'
         go_simp
         with_reducible rfl
        rotate_left
        ·simp only [Act.put, List.setIfInBounds_toArray, List.set_cons_zero, List.set_cons_succ, i64_w, i32_w]
         rfl
        refine pure_ (i := 4) (N := some 22) (v := ?_) (a' := ?_) #[true, true, false, false, true, false, false, false, false, false, false, false, false, false, false] rfl rfl (any_of HT_.out (by kernel_rfl)) (fun _ _ _ h => h) (Or.inl ⟨by rfl, ?_⟩) ?_ ?_
        rotate_left
        ·intro w'
         go_simp
         with_reducible rfl
        rotate_left
        ·simp only [Act.put, List.setIfInBounds_toArray, List.set_cons_zero, List.set_cons_succ, i64_w, i32_w]
         rfl
        refine pure_ (i := 5) (N := some 23) (v := ?_) (a' := ?_) #[true, true, false, false, true, true, false, false, false, false, false, false, false, false, false] rfl rfl (any_of HT_.out (by kernel_rfl)) (fun _ _ _ h => h) (Or.inl ⟨by rfl, ?_⟩) ?_ ?_
        rotate_left
        ·intro w'
         go_simp
         with_reducible rfl
        rotate_left
        ·simp only [Act.put, List.setIfInBounds_toArray, List.set_cons_zero, List.set_cons_succ, i64_w, i32_w]
         rfl
        refine pure_ (i := 8) (N := some 26) (v := ?_) (a' := ?_) #[true, true, false, false, true, true, false, false, true, false, false, false, false, false, false] rfl rfl (any_of HT_.out (by kernel_rfl)) (fun _ _ _ h => h) (Or.inl ⟨by rfl, ?_⟩) ?_ ?_
        rotate_left
        ·intro w'
         go_simp
         with_reducible rfl
        rotate_left
        ·simp only [Act.put, List.setIfInBounds_toArray, List.set_cons_zero, List.set_cons_succ, i64_w, i32_w]
         rfl
        refine pure_ (i := 9) (N := some 27) (v := ?_) (a' := ?_) #[true, true, false, false, true, true, false, false, true, true, false, false, false, false, false] rfl rfl (any_of HT_.out (by kernel_rfl)) (fun _ _ _ h => h) (Or.inl ⟨by rfl, ?_⟩) ?_ ?_
        rotate_left
        ·intro w'
         go_simp
         with_reducible rfl
        rotate_left
        ·simp only [Act.put, List.setIfInBounds_toArray, List.set_cons_zero, List.set_cons_succ, i64_w, i32_w]
         rfl
        refine take_ (i := 2) (N := some 20) (v := ?_) (a' := ?_) #[true, true, true, false, true, true, false, false, true, true, false, false, false, false, false] rfl rfl (take_ofW HT_.out HW_.out (by kernel_rfl)) (fun _ _ _ h => h) (Or.inl ⟨by rfl, ?_⟩) hHeld ?_ ?_
        rotate_left
        ·rintro w' ⟨s0, s1, s2⟩
         go_simp
         with_reducible rfl
        rotate_left
        ·simp only [Act.put, List.setIfInBounds_toArray, List.set_cons_zero, List.set_cons_succ, i64_w, i32_w]
         rfl
        refine take_ (i := 6) (N := some 24) (v := ?_) (a' := ?_) #[true, true, true, false, true, true, true, false, true, true, false, false, false, false, false] rfl rfl (take_ofW HT_.out HW_.out (by kernel_rfl)) (fun _ _ _ h => h) (Or.inl ⟨by rfl, ?_⟩) hHeld ?_ ?_
        rotate_left
        ·rintro w' ⟨s0, s1, s2⟩
         go_simp
         with_reducible rfl
        rotate_left
        ·simp only [Act.put, List.setIfInBounds_toArray, List.set_cons_zero, List.set_cons_succ, i64_w, i32_w]
         rfl
        refine take_ (i := 10) (N := some 28) (v := ?_) (a' := ?_) #[true, true, true, false, true, true, true, false, true, true, true, false, false, false, false] rfl rfl (take_ofW HT_.out HW_.out (by kernel_rfl)) (fun _ _ _ h => h) (Or.inl ⟨by rfl, ?_⟩) hHeld ?_ ?_
        rotate_left
        ·rintro w' ⟨s0, s1, s2⟩
         go_simp
         with_reducible rfl
        rotate_left
        ·simp only [Act.put, List.setIfInBounds_toArray, List.set_cons_zero, List.set_cons_succ, i64_w, i32_w]
         rfl
        refine join_ (σ := Value × Value × Value × Nat) 1 #[true, true, true, true, true, true, true, true, true, true, true, true, true, true, false] (fun s_ => [(21, s_.1), (25, s_.2.1), (29, s_.2.2.1), (5, .pointer (some ⟨s_.2.2.2, 0, none⟩)), (30, .agg #[s_.1, s_.2.1, s_.2.2.1])]) (fun s_ w' => (w'.cell? ad249 = some (.string (rdOf ByteArray.empty t246 0)) ∧ w'.cell? ⟨ad249.block, ad249.off + 1, none⟩ = some (.string (rdOf ByteArray.empty t246 1)) ∧ w'.cell? ⟨ad249.block, ad249.off + 2, none⟩ = some (.string (rdOf ByteArray.empty t246 2))) ∧ (Kd.R Kd.string 9 w' w.heap.size (fun _ => True) (.slice (some ad249) t246.length co41) t246) ∧ (Kd.R (Kd.int .i64) 3 w' w.heap.size (fun k_ => some k_ ≠ (s_.2.1 : Value).ownBlock ∧ some k_ ≠ (s_.2.2.1 : Value).ownBlock) s_.1 t250) ∧ (Kd.R (Kd.int .i64) 3 w' w.heap.size (fun k_ => some k_ ≠ (s_.1 : Value).ownBlock ∧ some k_ ≠ (s_.2.2.1 : Value).ownBlock) s_.2.1 t254) ∧ (Kd.R (Kd.int .i64) 3 w' w.heap.size (fun k_ => some k_ ≠ (s_.1 : Value).ownBlock ∧ some k_ ≠ (s_.2.1 : Value).ownBlock) s_.2.2.1 t258) ∧ (w'.heap[gb245]? = some (.cells #[.slice none 0 0, .slice none 0 0, .slice none 0 0] 39 (0, 0))) ∧ (w'.heap[s_.2.2.2]? = some (.cells #[.slice none 0 0, .slice none 0 0, .slice none 0 0] 39 (0, 0))) ∧ (w.heap.size ≤ s_.2.2.2) ∧ (w.heap.size ≤ s_.2.2.2) ∧ (gb245 ≠ s_.2.2.2) ∧ (s_.2.2.2 ≠ gb245) ∧ (Below w.heap.size w w')) ?_ ?_
        rotate_left
        ·intro hCont
         refine two_ (i := 3) (j := 13) (Ni := some 21) (Nj := some 5) #[true, true, true, true, true, true, true, false, true, true, true, false, false, false, false] #[true, true, true, false, true, true, true, false, true, true, true, false, false, true, false] rfl rfl rfl rfl (two_of HT_.out (by kernel_rfl)) (by decide) (by decide) (fun K hK => ?_) (fun K hK => ?_)
         ·skip
          refine goes_ Try.func98 (by kernel_rfl) rfl #[.string (rdOf ByteArray.empty t246 0)] (by rfl) rfl rfl Bc_4 ?_
          with_reducible refine (spec_l25Read.calls k (rdOf ByteArray.empty t246 0) t250 _ A8.out).mono ?_
          rintro e w43 ⟨v251, rfl, ho0, hb⟩
          have HS0_ := (hb.cell (World.block_lt_of_cell? _ _ (hHeld.1))).trans (hHeld.1)
          have HS1_ := (hb.cell (World.block_lt_of_cell? _ _ (hHeld.2.1))).trans (hHeld.2.1)
          have HS2_ := (hb.cell (World.block_lt_of_cell? _ _ (hHeld.2.2))).trans (hHeld.2.2)
          refine ⟨_, rfl, ?_⟩
          have n0_ := Aside0.mk (Kd.R_below Bc_5 hb)
          have n1_ := Aside0.mk (Kd.R_lower ho0 (below_size Bc_0))
          have n2_ := Aside0.mk (blk_below (g := gb245) (o := .cells #[.slice none 0 0, .slice none 0 0, .slice none 0 0] 39 (0, 0)) Bc_2 hb)
          have n3_ := Aside0.mk (below_step Bc_0 hb)
          clear HO248
          clear BK245
          clear HB
          have HO248 := n0_
          have HO252 := n1_
          have BK245 := n2_
          have HB := n3_
          clear n0_ n1_ n2_ n3_
          (try clear hb)
          (try clear hb2)
          (try clear hk)
          (try clear hi)
          (try clear ho0)
          refine hK.out _ _ ⟨HS0_, HS1_, HS2_⟩ (fun hHeld => ?_)
          clear hK K
          refine norm_ (a' := ?_) ?_ ?_
          rotate_left
          ·show Act.put _ (some 21) _ = _
           simp only [Act.put, List.setIfInBounds_toArray, List.set_cons_zero, List.set_cons_succ, i64_w, i32_w]
           rfl
          refine two_ (i := 7) (j := 13) (Ni := some 25) (Nj := some 5) #[true, true, true, true, true, true, true, true, true, true, true, false, false, false, false] #[true, true, true, true, true, true, true, false, true, true, true, false, false, true, false] rfl rfl rfl rfl (two_of HT_.out (by kernel_rfl)) (by decide) (by decide) (fun K hK => ?_) (fun K hK => ?_)
          ·skip
           refine goes_ Try.func98 (by kernel_rfl) rfl #[.string (rdOf ByteArray.empty t246 1)] (by rfl) rfl rfl Bc_4 ?_
           with_reducible refine (spec_l25Read.calls k (rdOf ByteArray.empty t246 1) t254 _ A10.out).mono ?_
           rintro e w44 ⟨v255, rfl, ho0, hb⟩
           have HS0_ := (hb.cell (World.block_lt_of_cell? _ _ (hHeld.1))).trans (hHeld.1)
           have HS1_ := (hb.cell (World.block_lt_of_cell? _ _ (hHeld.2.1))).trans (hHeld.2.1)
           have HS2_ := (hb.cell (World.block_lt_of_cell? _ _ (hHeld.2.2))).trans (hHeld.2.2)
           refine ⟨_, rfl, ?_⟩
           have n0_ := Aside0.mk (Kd.R_below Bc_5 hb)
           have n1_ := Aside0.mk (Kd.R_elder' Bc_6 (Kd.R_base ho0) hb)
           have n2_ := Aside0.mk (Kd.R_lower (Kd.R_new' ho0 (Kd.R_lt Bc_6)) (below_size Bc_0))
           have n3_ := Aside0.mk (blk_below (g := gb245) (o := .cells #[.slice none 0 0, .slice none 0 0, .slice none 0 0] 39 (0, 0)) Bc_2 hb)
           have n4_ := Aside0.mk (below_step Bc_0 hb)
           clear HO248
           clear HO252
           clear BK245
           clear HB
           have HO248 := n0_
           have HO252 := n1_
           have HO256 := n2_
           have BK245 := n3_
           have HB := n4_
           clear n0_ n1_ n2_ n3_ n4_
           (try clear hb)
           (try clear hb2)
           (try clear hk)
           (try clear hi)
           (try clear ho0)
           refine hK.out _ _ ⟨HS0_, HS1_, HS2_⟩ (fun hHeld => ?_)
           clear hK K
           refine norm_ (a' := ?_) ?_ ?_
           rotate_left
           ·show Act.put _ (some 25) _ = _
            simp only [Act.put, List.setIfInBounds_toArray, List.set_cons_zero, List.set_cons_succ, i64_w, i32_w]
            rfl
           refine two_ (i := 11) (j := 13) (Ni := some 29) (Nj := some 5) #[true, true, true, true, true, true, true, true, true, true, true, true, false, false, false] #[true, true, true, true, true, true, true, true, true, true, true, false, false, true, false] rfl rfl rfl rfl (two_of HT_.out (by kernel_rfl)) (by decide) (by decide) (fun K hK => ?_) (fun K hK => ?_)
           ·skip
            refine goes_ Try.func98 (by kernel_rfl) rfl #[.string (rdOf ByteArray.empty t246 2)] (by rfl) rfl rfl Bc_4 ?_
            with_reducible refine (spec_l25Read.calls k (rdOf ByteArray.empty t246 2) t258 _ A12.out).mono ?_
            rintro e w45 ⟨v259, rfl, ho0, hb⟩
            have HS0_ := (hb.cell (World.block_lt_of_cell? _ _ (hHeld.1))).trans (hHeld.1)
            have HS1_ := (hb.cell (World.block_lt_of_cell? _ _ (hHeld.2.1))).trans (hHeld.2.1)
            have HS2_ := (hb.cell (World.block_lt_of_cell? _ _ (hHeld.2.2))).trans (hHeld.2.2)
            refine ⟨_, rfl, ?_⟩
            have n0_ := Aside0.mk (Kd.R_below Bc_5 hb)
            have n1_ := Aside0.mk (Kd.R_elder' Bc_6 (Kd.R_base ho0) hb)
            have n2_ := Aside0.mk (Kd.R_elder' Bc_9 (Kd.R_base ho0) hb)
            have n3_ := Aside0.mk (Kd.R_lower (Kd.R_new' (Kd.R_new' ho0 (Kd.R_lt Bc_6)) (Kd.R_lt Bc_9)) (below_size Bc_0))
            have n4_ := Aside0.mk (blk_below (g := gb245) (o := .cells #[.slice none 0 0, .slice none 0 0, .slice none 0 0] 39 (0, 0)) Bc_2 hb)
            have n5_ := Aside0.mk (below_step Bc_0 hb)
            clear HO248
            clear HO252
            clear HO256
            clear BK245
            clear HB
            have HO248 := n0_
            have HO252 := n1_
            have HO256 := n2_
            have HO260 := n3_
            have BK245 := n4_
            have HB := n5_
            clear n0_ n1_ n2_ n3_ n4_ n5_
            (try clear hb)
            (try clear hb2)
            (try clear hk)
            (try clear hi)
            (try clear ho0)
            obtain ⟨Ao46, co46, eo46⟩ := Kd.R_slice HO260.out
            (first | subst eo46 | (injection eo46 with f1_ f2_ f3_; have f4_ := f1_.symm; have f5_ := f3_.symm; clear f1_ f2_ f3_; subst f4_; subst f5_))
            obtain ⟨Ao47, co47, eo47⟩ := Kd.R_slice HO256.out
            (first | subst eo47 | (injection eo47 with f1_ f2_ f3_; have f4_ := f1_.symm; have f5_ := f3_.symm; clear f1_ f2_ f3_; subst f4_; subst f5_))
            obtain ⟨Ao48, co48, eo48⟩ := Kd.R_slice HO252.out
            (first | subst eo48 | (injection eo48 with f1_ f2_ f3_; have f4_ := f1_.symm; have f5_ := f3_.symm; clear f1_ f2_ f3_; subst f4_; subst f5_))
            refine hK.out _ _ ⟨HS0_, HS1_, HS2_⟩ (fun hHeld => ?_)
            clear hK K
            refine norm_ (a' := ?_) ?_ ?_
            rotate_left
            ·show Act.put _ (some 29) _ = _
             simp only [Act.put, List.setIfInBounds_toArray, List.set_cons_zero, List.set_cons_succ, i64_w, i32_w]
             rfl
            refine pure_ (i := 12) (N := some 30) (v := ?_) (a' := ?_) #[true, true, true, true, true, true, true, true, true, true, true, true, true, false, false] rfl rfl (any_of HT_.out (by kernel_rfl)) (fun _ _ _ h => h) (Or.inl ⟨by rfl, ?_⟩) ?_ ?_
            rotate_left
            ·intro w'
             go_simp
             with_reducible rfl
            rotate_left
            ·simp only [Act.put, List.setIfInBounds_toArray, List.set_cons_zero, List.set_cons_succ, i64_w, i32_w]
             rfl
            refine one_ (i := 13) (N := some 5) #[true, true, true, true, true, true, true, true, true, true, true, true, true, true, false] rfl rfl (one_of HT_.out (by kernel_rfl)) (by decide) (fun K hK => ?_)
            refine box_step ?hg (N := 5) ?hd (cs := #[.slice none 0 0, .slice none 0 0, .slice none 0 0]) (t := 39) ?hr ?_; (case hd => rfl); (case hg => rfl); (case hr => first | (go_simp; done) | (go_simp; rfl))
            intro gb261 hg w49 hbox hb
            have HS0_ := (hb.cell (World.block_lt_of_cell? _ _ (hHeld.1))).trans (hHeld.1)
            have HS1_ := (hb.cell (World.block_lt_of_cell? _ _ (hHeld.2.1))).trans (hHeld.2.1)
            have HS2_ := (hb.cell (World.block_lt_of_cell? _ _ (hHeld.2.2))).trans (hHeld.2.2)
            have n0_ := Aside0.mk (Kd.R_below Bc_5 hb)
            have n1_ := Aside0.mk (Kd.R_below Bc_6 hb)
            have n2_ := Aside0.mk (Kd.R_below Bc_9 hb)
            have n3_ := Aside0.mk (Kd.R_below Bc_31 hb)
            have n4_ := Aside0.mk (blk_below (g := gb245) (o := .cells #[.slice none 0 0, .slice none 0 0, .slice none 0 0] 39 (0, 0)) Bc_2 hb)
            have n5_ := Aside0.mk (below_step Bc_0 hb)
            have n6_ := Aside0.mk (hbox)
            have n7_ := Aside0.mk ((by rw [hg]; exact (below_size Bc_0) : w.heap.size ≤ gb261))
            have n8_ := Aside0.mk ((by rw [hg]; exact (below_size Bc_0) : w.heap.size ≤ gb261))
            have n9_ := Aside0.mk ((by rw [hg]; exact Nat.ne_of_lt (blk_lt (g := gb245) (o := .cells #[.slice none 0 0, .slice none 0 0, .slice none 0 0] 39 (0, 0)) Bc_2) : gb245 ≠ gb261))
            have n10_ := Aside0.mk ((by rw [hg]; exact Nat.ne_of_gt (blk_lt (g := gb245) (o := .cells #[.slice none 0 0, .slice none 0 0, .slice none 0 0] 39 (0, 0)) Bc_2) : gb261 ≠ gb245))
            clear HO248
            clear HO252
            clear HO256
            clear HO260
            clear BK245
            clear HB
            have HO248 := n0_
            have HO252 := n1_
            have HO256 := n2_
            have HO260 := n3_
            have BK245 := n4_
            have HB := n5_
            have BK261 := n6_
            have GW261 := n7_
            have GE261 := n8_
            have NB245_261 := n9_
            have NB261_245 := n10_
            clear n0_ n1_ n2_ n3_ n4_ n5_ n6_ n7_ n8_ n9_ n10_
            clear hb hbox hg
            refine hK.out _ _ ⟨HS0_, HS1_, HS2_⟩ (fun hHeld => ?_)
            clear hK K
            refine norm_ (a' := ?_) ?_ ?_
            rotate_left
            ·show Act.put _ (some 5) _ = _
             simp only [Act.put, List.setIfInBounds_toArray, List.set_cons_zero, List.set_cons_succ, i64_w, i32_w]
             rfl
            exact norm_ Bc_16 (hCont (.slice Ao48 t250.length co48, .slice Ao47 t254.length co47, .slice Ao46 t258.length co46, gb261) _ ⟨hHeld, Bc_5, Bc_12, Bc_13, Bc_14, Bc_2, Bc_8, GW261.out, GE261.out, NB245_261.out, NB261_245.out, Bc_1⟩)
           ·skip
            refine box_step ?hg (N := 5) ?hd (cs := #[.slice none 0 0, .slice none 0 0, .slice none 0 0]) (t := 39) ?hr ?_; (case hd => rfl); (case hg => rfl); (case hr => first | (go_simp; done) | (go_simp; rfl))
            intro gb261 hg w45 hbox hb
            have HS0_ := (hb.cell (World.block_lt_of_cell? _ _ (hHeld.1))).trans (hHeld.1)
            have HS1_ := (hb.cell (World.block_lt_of_cell? _ _ (hHeld.2.1))).trans (hHeld.2.1)
            have HS2_ := (hb.cell (World.block_lt_of_cell? _ _ (hHeld.2.2))).trans (hHeld.2.2)
            have n0_ := Aside0.mk (Kd.R_below Bc_5 hb)
            have n1_ := Aside0.mk (Kd.R_below Bc_6 hb)
            have n2_ := Aside0.mk (Kd.R_below Bc_9 hb)
            have n3_ := Aside0.mk (blk_below (g := gb245) (o := .cells #[.slice none 0 0, .slice none 0 0, .slice none 0 0] 39 (0, 0)) Bc_2 hb)
            have n4_ := Aside0.mk (below_step Bc_0 hb)
            have n5_ := Aside0.mk (hbox)
            have n6_ := Aside0.mk ((by rw [hg]; exact (below_size Bc_0) : w.heap.size ≤ gb261))
            have n7_ := Aside0.mk ((by rw [hg]; exact (below_size Bc_0) : w.heap.size ≤ gb261))
            have n8_ := Aside0.mk ((by rw [hg]; exact Nat.ne_of_lt (blk_lt (g := gb245) (o := .cells #[.slice none 0 0, .slice none 0 0, .slice none 0 0] 39 (0, 0)) Bc_2) : gb245 ≠ gb261))
            have n9_ := Aside0.mk ((by rw [hg]; exact Nat.ne_of_gt (blk_lt (g := gb245) (o := .cells #[.slice none 0 0, .slice none 0 0, .slice none 0 0] 39 (0, 0)) Bc_2) : gb261 ≠ gb245))
            clear HO248
            clear HO252
            clear HO256
            clear BK245
            clear HB
            have HO248 := n0_
            have HO252 := n1_
            have HO256 := n2_
            have BK245 := n3_
            have HB := n4_
            have BK261 := n5_
            have GW261 := n6_
            have GE261 := n7_
            have NB245_261 := n8_
            have NB261_245 := n9_
            clear n0_ n1_ n2_ n3_ n4_ n5_ n6_ n7_ n8_ n9_
            clear hb hbox hg
            refine hK.out _ _ ⟨HS0_, HS1_, HS2_⟩ (fun hHeld => ?_)
            clear hK K
            refine norm_ (a' := ?_) ?_ ?_
            rotate_left
            ·show Act.put _ (some 5) _ = _
             simp only [Act.put, List.setIfInBounds_toArray, List.set_cons_zero, List.set_cons_succ, i64_w, i32_w]
             rfl
            refine one_ (i := 11) (N := some 29) #[true, true, true, true, true, true, true, true, true, true, true, true, false, true, false] rfl rfl (one_of HT_.out (by kernel_rfl)) (by decide) (fun K hK => ?_)
            refine goes_ Try.func98 (by kernel_rfl) rfl #[.string (rdOf ByteArray.empty t246 2)] (by rfl) rfl rfl Bc_4 ?_
            with_reducible refine (spec_l25Read.calls k (rdOf ByteArray.empty t246 2) t258 _ A12.out).mono ?_
            rintro e w46 ⟨v259, rfl, ho0, hb⟩
            have HS0_ := (hb.cell (World.block_lt_of_cell? _ _ (hHeld.1))).trans (hHeld.1)
            have HS1_ := (hb.cell (World.block_lt_of_cell? _ _ (hHeld.2.1))).trans (hHeld.2.1)
            have HS2_ := (hb.cell (World.block_lt_of_cell? _ _ (hHeld.2.2))).trans (hHeld.2.2)
            refine ⟨_, rfl, ?_⟩
            have n0_ := Aside0.mk (Kd.R_below Bc_5 hb)
            have n1_ := Aside0.mk (Kd.R_elder' Bc_6 (Kd.R_base ho0) hb)
            have n2_ := Aside0.mk (Kd.R_elder' Bc_9 (Kd.R_base ho0) hb)
            have n3_ := Aside0.mk (Kd.R_lower (Kd.R_new' (Kd.R_new' ho0 (Kd.R_lt Bc_6)) (Kd.R_lt Bc_9)) (below_size Bc_1))
            have n4_ := Aside0.mk (blk_below (g := gb245) (o := .cells #[.slice none 0 0, .slice none 0 0, .slice none 0 0] 39 (0, 0)) Bc_2 hb)
            have n5_ := Aside0.mk (blk_below (g := gb261) (o := .cells #[.slice none 0 0, .slice none 0 0, .slice none 0 0] 39 (0, 0)) Bc_8 hb)
            have n6_ := Aside0.mk (below_step Bc_1 hb)
            clear HO248
            clear HO252
            clear HO256
            clear BK245
            clear BK261
            clear HB
            have HO248 := n0_
            have HO252 := n1_
            have HO256 := n2_
            have HO260 := n3_
            have BK245 := n4_
            have BK261 := n5_
            have HB := n6_
            clear n0_ n1_ n2_ n3_ n4_ n5_ n6_
            (try clear hb)
            (try clear hb2)
            (try clear hk)
            (try clear hi)
            (try clear ho0)
            obtain ⟨Ao47, co47, eo47⟩ := Kd.R_slice HO260.out
            (first | subst eo47 | (injection eo47 with f1_ f2_ f3_; have f4_ := f1_.symm; have f5_ := f3_.symm; clear f1_ f2_ f3_; subst f4_; subst f5_))
            obtain ⟨Ao48, co48, eo48⟩ := Kd.R_slice HO256.out
            (first | subst eo48 | (injection eo48 with f1_ f2_ f3_; have f4_ := f1_.symm; have f5_ := f3_.symm; clear f1_ f2_ f3_; subst f4_; subst f5_))
            obtain ⟨Ao49, co49, eo49⟩ := Kd.R_slice HO252.out
            (first | subst eo49 | (injection eo49 with f1_ f2_ f3_; have f4_ := f1_.symm; have f5_ := f3_.symm; clear f1_ f2_ f3_; subst f4_; subst f5_))
            refine hK.out _ _ ⟨HS0_, HS1_, HS2_⟩ (fun hHeld => ?_)
            clear hK K
            refine norm_ (a' := ?_) ?_ ?_
            rotate_left
            ·show Act.put _ (some 29) _ = _
             simp only [Act.put, List.setIfInBounds_toArray, List.set_cons_zero, List.set_cons_succ, i64_w, i32_w]
             rfl
            refine pure_ (i := 12) (N := some 30) (v := ?_) (a' := ?_) #[true, true, true, true, true, true, true, true, true, true, true, true, true, true, false] rfl rfl (any_of HT_.out (by kernel_rfl)) (fun _ _ _ h => h) (Or.inl ⟨by rfl, ?_⟩) ?_ ?_
            rotate_left
            ·intro w'
             go_simp
             with_reducible rfl
            rotate_left
            ·simp only [Act.put, List.setIfInBounds_toArray, List.set_cons_zero, List.set_cons_succ, i64_w, i32_w]
             rfl
            exact norm_ Bc_16 (hCont (.slice Ao49 t250.length co49, .slice Ao48 t254.length co48, .slice Ao47 t258.length co47, gb261) _ ⟨hHeld, Bc_5, Bc_12, Bc_13, Bc_14, Bc_2, Bc_8, GW261.out, GE261.out, NB245_261.out, NB261_245.out, Bc_1⟩)
          ·skip
           refine box_step ?hg (N := 5) ?hd (cs := #[.slice none 0 0, .slice none 0 0, .slice none 0 0]) (t := 39) ?hr ?_; (case hd => rfl); (case hg => rfl); (case hr => first | (go_simp; done) | (go_simp; rfl))
           intro gb261 hg w44 hbox hb
           have HS0_ := (hb.cell (World.block_lt_of_cell? _ _ (hHeld.1))).trans (hHeld.1)
           have HS1_ := (hb.cell (World.block_lt_of_cell? _ _ (hHeld.2.1))).trans (hHeld.2.1)
           have HS2_ := (hb.cell (World.block_lt_of_cell? _ _ (hHeld.2.2))).trans (hHeld.2.2)
           have n0_ := Aside0.mk (Kd.R_below Bc_5 hb)
           have n1_ := Aside0.mk (Kd.R_below Bc_6 hb)
           have n2_ := Aside0.mk (blk_below (g := gb245) (o := .cells #[.slice none 0 0, .slice none 0 0, .slice none 0 0] 39 (0, 0)) Bc_2 hb)
           have n3_ := Aside0.mk (below_step Bc_0 hb)
           have n4_ := Aside0.mk (hbox)
           have n5_ := Aside0.mk ((by rw [hg]; exact (below_size Bc_0) : w.heap.size ≤ gb261))
           have n6_ := Aside0.mk ((by rw [hg]; exact (below_size Bc_0) : w.heap.size ≤ gb261))
           have n7_ := Aside0.mk ((by rw [hg]; exact Nat.ne_of_lt (blk_lt (g := gb245) (o := .cells #[.slice none 0 0, .slice none 0 0, .slice none 0 0] 39 (0, 0)) Bc_2) : gb245 ≠ gb261))
           have n8_ := Aside0.mk ((by rw [hg]; exact Nat.ne_of_gt (blk_lt (g := gb245) (o := .cells #[.slice none 0 0, .slice none 0 0, .slice none 0 0] 39 (0, 0)) Bc_2) : gb261 ≠ gb245))
           clear HO248
           clear HO252
           clear BK245
           clear HB
           have HO248 := n0_
           have HO252 := n1_
           have BK245 := n2_
           have HB := n3_
           have BK261 := n4_
           have GW261 := n5_
           have GE261 := n6_
           have NB245_261 := n7_
           have NB261_245 := n8_
           clear n0_ n1_ n2_ n3_ n4_ n5_ n6_ n7_ n8_
           clear hb hbox hg
           refine hK.out _ _ ⟨HS0_, HS1_, HS2_⟩ (fun hHeld => ?_)
           clear hK K
           refine norm_ (a' := ?_) ?_ ?_
           rotate_left
           ·show Act.put _ (some 5) _ = _
            simp only [Act.put, List.setIfInBounds_toArray, List.set_cons_zero, List.set_cons_succ, i64_w, i32_w]
            rfl
           refine one_ (i := 7) (N := some 25) #[true, true, true, true, true, true, true, true, true, true, true, false, false, true, false] rfl rfl (one_of HT_.out (by kernel_rfl)) (by decide) (fun K hK => ?_)
           refine goes_ Try.func98 (by kernel_rfl) rfl #[.string (rdOf ByteArray.empty t246 1)] (by rfl) rfl rfl Bc_4 ?_
           with_reducible refine (spec_l25Read.calls k (rdOf ByteArray.empty t246 1) t254 _ A10.out).mono ?_
           rintro e w45 ⟨v255, rfl, ho0, hb⟩
           have HS0_ := (hb.cell (World.block_lt_of_cell? _ _ (hHeld.1))).trans (hHeld.1)
           have HS1_ := (hb.cell (World.block_lt_of_cell? _ _ (hHeld.2.1))).trans (hHeld.2.1)
           have HS2_ := (hb.cell (World.block_lt_of_cell? _ _ (hHeld.2.2))).trans (hHeld.2.2)
           refine ⟨_, rfl, ?_⟩
           have n0_ := Aside0.mk (Kd.R_below Bc_5 hb)
           have n1_ := Aside0.mk (Kd.R_elder' Bc_6 (Kd.R_base ho0) hb)
           have n2_ := Aside0.mk (Kd.R_lower (Kd.R_new' ho0 (Kd.R_lt Bc_6)) (below_size Bc_1))
           have n3_ := Aside0.mk (blk_below (g := gb245) (o := .cells #[.slice none 0 0, .slice none 0 0, .slice none 0 0] 39 (0, 0)) Bc_2 hb)
           have n4_ := Aside0.mk (blk_below (g := gb261) (o := .cells #[.slice none 0 0, .slice none 0 0, .slice none 0 0] 39 (0, 0)) Bc_8 hb)
           have n5_ := Aside0.mk (below_step Bc_1 hb)
           clear HO248
           clear HO252
           clear BK245
           clear BK261
           clear HB
           have HO248 := n0_
           have HO252 := n1_
           have HO256 := n2_
           have BK245 := n3_
           have BK261 := n4_
           have HB := n5_
           clear n0_ n1_ n2_ n3_ n4_ n5_
           (try clear hb)
           (try clear hb2)
           (try clear hk)
           (try clear hi)
           (try clear ho0)
           refine hK.out _ _ ⟨HS0_, HS1_, HS2_⟩ (fun hHeld => ?_)
           clear hK K
           refine norm_ (a' := ?_) ?_ ?_
           rotate_left
           ·show Act.put _ (some 25) _ = _
            simp only [Act.put, List.setIfInBounds_toArray, List.set_cons_zero, List.set_cons_succ, i64_w, i32_w]
            rfl
           refine one_ (i := 11) (N := some 29) #[true, true, true, true, true, true, true, true, true, true, true, true, false, true, false] rfl rfl (one_of HT_.out (by kernel_rfl)) (by decide) (fun K hK => ?_)
           refine goes_ Try.func98 (by kernel_rfl) rfl #[.string (rdOf ByteArray.empty t246 2)] (by rfl) rfl rfl Bc_4 ?_
           with_reducible refine (spec_l25Read.calls k (rdOf ByteArray.empty t246 2) t258 _ A12.out).mono ?_
           rintro e w46 ⟨v259, rfl, ho0, hb⟩
           have HS0_ := (hb.cell (World.block_lt_of_cell? _ _ (hHeld.1))).trans (hHeld.1)
           have HS1_ := (hb.cell (World.block_lt_of_cell? _ _ (hHeld.2.1))).trans (hHeld.2.1)
           have HS2_ := (hb.cell (World.block_lt_of_cell? _ _ (hHeld.2.2))).trans (hHeld.2.2)
           refine ⟨_, rfl, ?_⟩
           have n0_ := Aside0.mk (Kd.R_below Bc_5 hb)
           have n1_ := Aside0.mk (Kd.R_elder' Bc_6 (Kd.R_base ho0) hb)
           have n2_ := Aside0.mk (Kd.R_elder' Bc_9 (Kd.R_base ho0) hb)
           have n3_ := Aside0.mk (Kd.R_lower (Kd.R_new' (Kd.R_new' ho0 (Kd.R_lt Bc_6)) (Kd.R_lt Bc_9)) (below_size Bc_1))
           have n4_ := Aside0.mk (blk_below (g := gb245) (o := .cells #[.slice none 0 0, .slice none 0 0, .slice none 0 0] 39 (0, 0)) Bc_2 hb)
           have n5_ := Aside0.mk (blk_below (g := gb261) (o := .cells #[.slice none 0 0, .slice none 0 0, .slice none 0 0] 39 (0, 0)) Bc_8 hb)
           have n6_ := Aside0.mk (below_step Bc_1 hb)
           clear HO248
           clear HO252
           clear HO256
           clear BK245
           clear BK261
           clear HB
           have HO248 := n0_
           have HO252 := n1_
           have HO256 := n2_
           have HO260 := n3_
           have BK245 := n4_
           have BK261 := n5_
           have HB := n6_
           clear n0_ n1_ n2_ n3_ n4_ n5_ n6_
           (try clear hb)
           (try clear hb2)
           (try clear hk)
           (try clear hi)
           (try clear ho0)
           obtain ⟨Ao47, co47, eo47⟩ := Kd.R_slice HO260.out
           (first | subst eo47 | (injection eo47 with f1_ f2_ f3_; have f4_ := f1_.symm; have f5_ := f3_.symm; clear f1_ f2_ f3_; subst f4_; subst f5_))
           obtain ⟨Ao48, co48, eo48⟩ := Kd.R_slice HO256.out
           (first | subst eo48 | (injection eo48 with f1_ f2_ f3_; have f4_ := f1_.symm; have f5_ := f3_.symm; clear f1_ f2_ f3_; subst f4_; subst f5_))
           obtain ⟨Ao49, co49, eo49⟩ := Kd.R_slice HO252.out
           (first | subst eo49 | (injection eo49 with f1_ f2_ f3_; have f4_ := f1_.symm; have f5_ := f3_.symm; clear f1_ f2_ f3_; subst f4_; subst f5_))
           refine hK.out _ _ ⟨HS0_, HS1_, HS2_⟩ (fun hHeld => ?_)
           clear hK K
           refine norm_ (a' := ?_) ?_ ?_
           rotate_left
           ·show Act.put _ (some 29) _ = _
            simp only [Act.put, List.setIfInBounds_toArray, List.set_cons_zero, List.set_cons_succ, i64_w, i32_w]
            rfl
           refine pure_ (i := 12) (N := some 30) (v := ?_) (a' := ?_) #[true, true, true, true, true, true, true, true, true, true, true, true, true, true, false] rfl rfl (any_of HT_.out (by kernel_rfl)) (fun _ _ _ h => h) (Or.inl ⟨by rfl, ?_⟩) ?_ ?_
           rotate_left
           ·intro w'
            go_simp
            with_reducible rfl
           rotate_left
           ·simp only [Act.put, List.setIfInBounds_toArray, List.set_cons_zero, List.set_cons_succ, i64_w, i32_w]
            rfl
           exact norm_ Bc_16 (hCont (.slice Ao49 t250.length co49, .slice Ao48 t254.length co48, .slice Ao47 t258.length co47, gb261) _ ⟨hHeld, Bc_5, Bc_12, Bc_13, Bc_14, Bc_2, Bc_8, GW261.out, GE261.out, NB245_261.out, NB261_245.out, Bc_1⟩)
         ·skip
          refine box_step ?hg (N := 5) ?hd (cs := #[.slice none 0 0, .slice none 0 0, .slice none 0 0]) (t := 39) ?hr ?_; (case hd => rfl); (case hg => rfl); (case hr => first | (go_simp; done) | (go_simp; rfl))
          intro gb261 hg w43 hbox hb
          have HS0_ := (hb.cell (World.block_lt_of_cell? _ _ (hHeld.1))).trans (hHeld.1)
          have HS1_ := (hb.cell (World.block_lt_of_cell? _ _ (hHeld.2.1))).trans (hHeld.2.1)
          have HS2_ := (hb.cell (World.block_lt_of_cell? _ _ (hHeld.2.2))).trans (hHeld.2.2)
          have n0_ := Aside0.mk (Kd.R_below Bc_5 hb)
          have n1_ := Aside0.mk (blk_below (g := gb245) (o := .cells #[.slice none 0 0, .slice none 0 0, .slice none 0 0] 39 (0, 0)) Bc_2 hb)
          have n2_ := Aside0.mk (below_step Bc_0 hb)
          have n3_ := Aside0.mk (hbox)
          have n4_ := Aside0.mk ((by rw [hg]; exact (below_size Bc_0) : w.heap.size ≤ gb261))
          have n5_ := Aside0.mk ((by rw [hg]; exact (below_size Bc_0) : w.heap.size ≤ gb261))
          have n6_ := Aside0.mk ((by rw [hg]; exact Nat.ne_of_lt (blk_lt (g := gb245) (o := .cells #[.slice none 0 0, .slice none 0 0, .slice none 0 0] 39 (0, 0)) Bc_2) : gb245 ≠ gb261))
          have n7_ := Aside0.mk ((by rw [hg]; exact Nat.ne_of_gt (blk_lt (g := gb245) (o := .cells #[.slice none 0 0, .slice none 0 0, .slice none 0 0] 39 (0, 0)) Bc_2) : gb261 ≠ gb245))
          clear HO248
          clear BK245
          clear HB
          have HO248 := n0_
          have BK245 := n1_
          have HB := n2_
          have BK261 := n3_
          have GW261 := n4_
          have GE261 := n5_
          have NB245_261 := n6_
          have NB261_245 := n7_
          clear n0_ n1_ n2_ n3_ n4_ n5_ n6_ n7_
          clear hb hbox hg
          refine hK.out _ _ ⟨HS0_, HS1_, HS2_⟩ (fun hHeld => ?_)
          clear hK K
          refine norm_ (a' := ?_) ?_ ?_
          rotate_left
          ·show Act.put _ (some 5) _ = _
           simp only [Act.put, List.setIfInBounds_toArray, List.set_cons_zero, List.set_cons_succ, i64_w, i32_w]
           rfl
          refine one_ (i := 3) (N := some 21) #[true, true, true, true, true, true, true, false, true, true, true, false, false, true, false] rfl rfl (one_of HT_.out (by kernel_rfl)) (by decide) (fun K hK => ?_)
          refine goes_ Try.func98 (by kernel_rfl) rfl #[.string (rdOf ByteArray.empty t246 0)] (by rfl) rfl rfl Bc_4 ?_
          with_reducible refine (spec_l25Read.calls k (rdOf ByteArray.empty t246 0) t250 _ A8.out).mono ?_
          rintro e w44 ⟨v251, rfl, ho0, hb⟩
          have HS0_ := (hb.cell (World.block_lt_of_cell? _ _ (hHeld.1))).trans (hHeld.1)
          have HS1_ := (hb.cell (World.block_lt_of_cell? _ _ (hHeld.2.1))).trans (hHeld.2.1)
          have HS2_ := (hb.cell (World.block_lt_of_cell? _ _ (hHeld.2.2))).trans (hHeld.2.2)
          refine ⟨_, rfl, ?_⟩
          have n0_ := Aside0.mk (Kd.R_below Bc_5 hb)
          have n1_ := Aside0.mk (Kd.R_lower ho0 (below_size Bc_1))
          have n2_ := Aside0.mk (blk_below (g := gb245) (o := .cells #[.slice none 0 0, .slice none 0 0, .slice none 0 0] 39 (0, 0)) Bc_2 hb)
          have n3_ := Aside0.mk (blk_below (g := gb261) (o := .cells #[.slice none 0 0, .slice none 0 0, .slice none 0 0] 39 (0, 0)) Bc_8 hb)
          have n4_ := Aside0.mk (below_step Bc_1 hb)
          clear HO248
          clear BK245
          clear BK261
          clear HB
          have HO248 := n0_
          have HO252 := n1_
          have BK245 := n2_
          have BK261 := n3_
          have HB := n4_
          clear n0_ n1_ n2_ n3_ n4_
          (try clear hb)
          (try clear hb2)
          (try clear hk)
          (try clear hi)
          (try clear ho0)
          refine hK.out _ _ ⟨HS0_, HS1_, HS2_⟩ (fun hHeld => ?_)
          clear hK K
          refine norm_ (a' := ?_) ?_ ?_
          rotate_left
          ·show Act.put _ (some 21) _ = _
           simp only [Act.put, List.setIfInBounds_toArray, List.set_cons_zero, List.set_cons_succ, i64_w, i32_w]
           rfl
          refine one_ (i := 7) (N := some 25) #[true, true, true, true, true, true, true, true, true, true, true, false, false, true, false] rfl rfl (one_of HT_.out (by kernel_rfl)) (by decide) (fun K hK => ?_)
          refine goes_ Try.func98 (by kernel_rfl) rfl #[.string (rdOf ByteArray.empty t246 1)] (by rfl) rfl rfl Bc_4 ?_
          with_reducible refine (spec_l25Read.calls k (rdOf ByteArray.empty t246 1) t254 _ A10.out).mono ?_
          rintro e w45 ⟨v255, rfl, ho0, hb⟩
          have HS0_ := (hb.cell (World.block_lt_of_cell? _ _ (hHeld.1))).trans (hHeld.1)
          have HS1_ := (hb.cell (World.block_lt_of_cell? _ _ (hHeld.2.1))).trans (hHeld.2.1)
          have HS2_ := (hb.cell (World.block_lt_of_cell? _ _ (hHeld.2.2))).trans (hHeld.2.2)
          refine ⟨_, rfl, ?_⟩
          have n0_ := Aside0.mk (Kd.R_below Bc_5 hb)
          have n1_ := Aside0.mk (Kd.R_elder' Bc_6 (Kd.R_base ho0) hb)
          have n2_ := Aside0.mk (Kd.R_lower (Kd.R_new' ho0 (Kd.R_lt Bc_6)) (below_size Bc_1))
          have n3_ := Aside0.mk (blk_below (g := gb245) (o := .cells #[.slice none 0 0, .slice none 0 0, .slice none 0 0] 39 (0, 0)) Bc_2 hb)
          have n4_ := Aside0.mk (blk_below (g := gb261) (o := .cells #[.slice none 0 0, .slice none 0 0, .slice none 0 0] 39 (0, 0)) Bc_8 hb)
          have n5_ := Aside0.mk (below_step Bc_1 hb)
          clear HO248
          clear HO252
          clear BK245
          clear BK261
          clear HB
          have HO248 := n0_
          have HO252 := n1_
          have HO256 := n2_
          have BK245 := n3_
          have BK261 := n4_
          have HB := n5_
          clear n0_ n1_ n2_ n3_ n4_ n5_
          (try clear hb)
          (try clear hb2)
          (try clear hk)
          (try clear hi)
          (try clear ho0)
          refine hK.out _ _ ⟨HS0_, HS1_, HS2_⟩ (fun hHeld => ?_)
          clear hK K
          refine norm_ (a' := ?_) ?_ ?_
          rotate_left
          ·show Act.put _ (some 25) _ = _
           simp only [Act.put, List.setIfInBounds_toArray, List.set_cons_zero, List.set_cons_succ, i64_w, i32_w]
           rfl
          refine one_ (i := 11) (N := some 29) #[true, true, true, true, true, true, true, true, true, true, true, true, false, true, false] rfl rfl (one_of HT_.out (by kernel_rfl)) (by decide) (fun K hK => ?_)
          refine goes_ Try.func98 (by kernel_rfl) rfl #[.string (rdOf ByteArray.empty t246 2)] (by rfl) rfl rfl Bc_4 ?_
          with_reducible refine (spec_l25Read.calls k (rdOf ByteArray.empty t246 2) t258 _ A12.out).mono ?_
          rintro e w46 ⟨v259, rfl, ho0, hb⟩
          have HS0_ := (hb.cell (World.block_lt_of_cell? _ _ (hHeld.1))).trans (hHeld.1)
          have HS1_ := (hb.cell (World.block_lt_of_cell? _ _ (hHeld.2.1))).trans (hHeld.2.1)
          have HS2_ := (hb.cell (World.block_lt_of_cell? _ _ (hHeld.2.2))).trans (hHeld.2.2)
          refine ⟨_, rfl, ?_⟩
          have n0_ := Aside0.mk (Kd.R_below Bc_5 hb)
          have n1_ := Aside0.mk (Kd.R_elder' Bc_6 (Kd.R_base ho0) hb)
          have n2_ := Aside0.mk (Kd.R_elder' Bc_9 (Kd.R_base ho0) hb)
          have n3_ := Aside0.mk (Kd.R_lower (Kd.R_new' (Kd.R_new' ho0 (Kd.R_lt Bc_6)) (Kd.R_lt Bc_9)) (below_size Bc_1))
          have n4_ := Aside0.mk (blk_below (g := gb245) (o := .cells #[.slice none 0 0, .slice none 0 0, .slice none 0 0] 39 (0, 0)) Bc_2 hb)
          have n5_ := Aside0.mk (blk_below (g := gb261) (o := .cells #[.slice none 0 0, .slice none 0 0, .slice none 0 0] 39 (0, 0)) Bc_8 hb)
          have n6_ := Aside0.mk (below_step Bc_1 hb)
          clear HO248
          clear HO252
          clear HO256
          clear BK245
          clear BK261
          clear HB
          have HO248 := n0_
          have HO252 := n1_
          have HO256 := n2_
          have HO260 := n3_
          have BK245 := n4_
          have BK261 := n5_
          have HB := n6_
          clear n0_ n1_ n2_ n3_ n4_ n5_ n6_
          (try clear hb)
          (try clear hb2)
          (try clear hk)
          (try clear hi)
          (try clear ho0)
          obtain ⟨Ao47, co47, eo47⟩ := Kd.R_slice HO260.out
          (first | subst eo47 | (injection eo47 with f1_ f2_ f3_; have f4_ := f1_.symm; have f5_ := f3_.symm; clear f1_ f2_ f3_; subst f4_; subst f5_))
          obtain ⟨Ao48, co48, eo48⟩ := Kd.R_slice HO256.out
          (first | subst eo48 | (injection eo48 with f1_ f2_ f3_; have f4_ := f1_.symm; have f5_ := f3_.symm; clear f1_ f2_ f3_; subst f4_; subst f5_))
          obtain ⟨Ao49, co49, eo49⟩ := Kd.R_slice HO252.out
          (first | subst eo49 | (injection eo49 with f1_ f2_ f3_; have f4_ := f1_.symm; have f5_ := f3_.symm; clear f1_ f2_ f3_; subst f4_; subst f5_))
          refine hK.out _ _ ⟨HS0_, HS1_, HS2_⟩ (fun hHeld => ?_)
          clear hK K
          refine norm_ (a' := ?_) ?_ ?_
          rotate_left
          ·show Act.put _ (some 29) _ = _
           simp only [Act.put, List.setIfInBounds_toArray, List.set_cons_zero, List.set_cons_succ, i64_w, i32_w]
           rfl
          refine pure_ (i := 12) (N := some 30) (v := ?_) (a' := ?_) #[true, true, true, true, true, true, true, true, true, true, true, true, true, true, false] rfl rfl (any_of HT_.out (by kernel_rfl)) (fun _ _ _ h => h) (Or.inl ⟨by rfl, ?_⟩) ?_ ?_
          rotate_left
          ·intro w'
           go_simp
           with_reducible rfl
          rotate_left
          ·simp only [Act.put, List.setIfInBounds_toArray, List.set_cons_zero, List.set_cons_succ, i64_w, i32_w]
           rfl
          exact norm_ Bc_16 (hCont (.slice Ao49 t250.length co49, .slice Ao48 t254.length co48, .slice Ao47 t258.length co47, gb261) _ ⟨hHeld, Bc_5, Bc_12, Bc_13, Bc_14, Bc_2, Bc_8, GW261.out, GE261.out, NB245_261.out, NB261_245.out, Bc_1⟩)
        rintro ⟨v251, v255, v259, gb261⟩ w50 ⟨hS_, h0_, h1_, h2_, h3_, h4_, h5_, h6_, h7_, h8_, h9_, h10_⟩
        have n0_ : Aside0 (Kd.R Kd.string 9 w50 w.heap.size (fun _ => True) (.slice (some ad249) t246.length co41) t246) := ⟨h0_⟩
        have n1_ : Aside0 (Kd.R (Kd.int .i64) 3 w50 w.heap.size (fun k_ => some k_ ≠ (v255 : Value).ownBlock ∧ some k_ ≠ (v259 : Value).ownBlock) v251 t250) := ⟨h1_⟩
        have n2_ : Aside0 (Kd.R (Kd.int .i64) 3 w50 w.heap.size (fun k_ => some k_ ≠ (v251 : Value).ownBlock ∧ some k_ ≠ (v259 : Value).ownBlock) v255 t254) := ⟨h2_⟩
        have n3_ : Aside0 (Kd.R (Kd.int .i64) 3 w50 w.heap.size (fun k_ => some k_ ≠ (v251 : Value).ownBlock ∧ some k_ ≠ (v255 : Value).ownBlock) v259 t258) := ⟨h3_⟩
        have n4_ : Aside0 (w50.heap[gb245]? = some (.cells #[.slice none 0 0, .slice none 0 0, .slice none 0 0] 39 (0, 0))) := ⟨h4_⟩
        have n5_ : Aside0 (w50.heap[gb261]? = some (.cells #[.slice none 0 0, .slice none 0 0, .slice none 0 0] 39 (0, 0))) := ⟨h5_⟩
        have n6_ : Aside0 (w.heap.size ≤ gb261) := ⟨h6_⟩
        have n7_ : Aside0 (w.heap.size ≤ gb261) := ⟨h7_⟩
        have n8_ : Aside0 (gb245 ≠ gb261) := ⟨h8_⟩
        have n9_ : Aside0 (gb261 ≠ gb245) := ⟨h9_⟩
        have n10_ : Aside0 (Below w.heap.size w w50) := ⟨h10_⟩
        clear HO248
        clear BK245
        clear HB
        clear h0_ h1_ h2_ h3_ h4_ h5_ h6_ h7_ h8_ h9_ h10_
        have HO248 := n0_
        have HO252 := n1_
        have HO256 := n2_
        have HO260 := n3_
        have BK245 := n4_
        have BK261 := n5_
        have GW261 := n6_
        have GE261 := n7_
        have NB245_261 := n8_
        have NB261_245 := n9_
        have HB := n10_
        clear n0_ n1_ n2_ n3_ n4_ n5_ n6_ n7_ n8_ n9_ n10_
        have hHeld : w50.cell? ad249 = some (.string (rdOf ByteArray.empty t246 0)) ∧ w50.cell? ⟨ad249.block, ad249.off + 1, none⟩ = some (.string (rdOf ByteArray.empty t246 1)) ∧ w50.cell? ⟨ad249.block, ad249.off + 2, none⟩ = some (.string (rdOf ByteArray.empty t246 2)) := hS_
        obtain ⟨Ao51, co51, eo51⟩ := Kd.R_slice HO260.out
        (first | subst eo51 | (injection eo51 with f1_ f2_ f3_; have f4_ := f1_.symm; have f5_ := f3_.symm; clear f1_ f2_ f3_; subst f4_; subst f5_))
        obtain ⟨Ao52, co52, eo52⟩ := Kd.R_slice HO256.out
        (first | subst eo52 | (injection eo52 with f1_ f2_ f3_; have f4_ := f1_.symm; have f5_ := f3_.symm; clear f1_ f2_ f3_; subst f4_; subst f5_))
        obtain ⟨Ao53, co53, eo53⟩ := Kd.R_slice HO252.out
        (first | subst eo53 | (injection eo53 with f1_ f2_ f3_; have f4_ := f1_.symm; have f5_ := f3_.symm; clear f1_ f2_ f3_; subst f4_; subst f5_))
        refine norm_ (a' := ?_) ?_ ?_
        rotate_left
        ·simp only [putAll, Act.put, List.setIfInBounds_toArray, List.set_cons_zero, List.set_cons_succ]
         rfl
        refine one_ (i := 14) (N := none) #[true, true, true, true, true, true, true, true, true, true, true, true, true, true, true] rfl rfl (one_of HT_.out (by kernel_rfl)) (by decide) (fun K hK => ?_)
        have hs54 : w50.cell? ⟨gb261, 0, none⟩ = some (.slice none 0 0) := (blk_cell BK261.out 0).trans rfl
        have hfs54 := blk_frozen BK261.out 0
        have hns54_0 := NB245_261.out
        have hms54_0 := NB261_245.out
        have hs55 : w50.cell? ⟨gb261, 1, none⟩ = some (.slice none 0 0) := (blk_cell BK261.out 1).trans rfl
        have hfs55 := blk_frozen BK261.out 1
        have hns55_0 := NB245_261.out
        have hms55_0 := NB261_245.out
        have hs56 : w50.cell? ⟨gb261, 2, none⟩ = some (.slice none 0 0) := (blk_cell BK261.out 2).trans rfl
        have hfs56 := blk_frozen BK261.out 2
        have hns56_0 := NB245_261.out
        have hms56_0 := NB261_245.out
        refine skip_ (w1 := ?_) (by rfl) rfl ?_ ?_
        rotate_left
        ·go_simp
         rfl
        refine hK.out _ _ ⟨((cell_far (p := ⟨gb261, _, none⟩) Bc_3 _).trans (((cell_far (p := ⟨gb261, _, none⟩) Bc_3 _).trans (((cell_far (p := ⟨gb261, _, none⟩) Bc_3 _).trans (hHeld.1)))))), ((cell_far (p := ⟨gb261, _, none⟩) Bc_3 _).trans (((cell_far (p := ⟨gb261, _, none⟩) Bc_3 _).trans (((cell_far (p := ⟨gb261, _, none⟩) Bc_3 _).trans (hHeld.2.1)))))), ((cell_far (p := ⟨gb261, _, none⟩) Bc_3 _).trans (((cell_far (p := ⟨gb261, _, none⟩) Bc_3 _).trans (((cell_far (p := ⟨gb261, _, none⟩) Bc_3 _).trans (hHeld.2.2))))))⟩ (fun hHeld => ?_)
        clear hK K
        refine done_ (done_of HT_.out (by kernel_rfl)) ?_
        have hnb57 := NB261_245.out
        have hnc57 := NB245_261.out
        have hcz58_0 : w50.cell? ⟨gb261, 0, none⟩ = some (.slice none 0 0) := (blk_cell BK261.out 0).trans rfl
        have hcz58_1 : w50.cell? ⟨gb261, 1, none⟩ = some (.slice none 0 0) := (blk_cell BK261.out 1).trans rfl
        have hcz58_2 : w50.cell? ⟨gb261, 2, none⟩ = some (.slice none 0 0) := (blk_cell BK261.out 2).trans rfl
        have hfz58_0 := blk_frozen BK261.out 0
        have hfz58_1 := blk_frozen BK261.out 1
        have hfz58_2 := blk_frozen BK261.out 2
        try go_wp2_with (first | ((with_reducible refine gate_callee (f := 99) rfl ?_); refine goesL_ (some 33) rfl rfl Try.func99 (by kernel_rfl) rfl #[.agg #[.slice Ao53 t250.length co53, .slice Ao52 t254.length co52, .slice Ao51 t258.length co51]] rfl Bc_4 ?_; (with_reducible refine (spec_LayoutText.calls k _ _ t250 _ _ t254 _ _ t258 t262 true _ ?side1 ?side2 ?side3 ?side4 ?side5 ?side6 A13.out).mono ?_); (case side1 => refine (Kd.R_reads' (e := 3) (base := w.heap.size) (ok := fun k_ => (some k_ ≠ (.slice Ao52 t254.length co52 : Value).ownBlock ∧ some k_ ≠ (.slice Ao51 t258.length co51 : Value).ownBlock)) (n := t250.length) (c := co53) ?_).2.2; exact Bc_25); (case side2 => exact (Kd.R_reads' HO252.out).2.1); (case side3 => refine (Kd.R_reads' (e := 3) (base := w.heap.size) (ok := fun k_ => (some k_ ≠ (.slice Ao53 t250.length co53 : Value).ownBlock ∧ some k_ ≠ (.slice Ao51 t258.length co51 : Value).ownBlock)) (n := t254.length) (c := co52) ?_).2.2; exact Bc_26); (case side4 => exact (Kd.R_reads' HO256.out).2.1); (case side5 => refine (Kd.R_reads' (e := 3) (base := w.heap.size) (ok := fun k_ => (some k_ ≠ (.slice Ao53 t250.length co53 : Value).ownBlock ∧ some k_ ≠ (.slice Ao52 t254.length co52 : Value).ownBlock)) (n := t258.length) (c := co51) ?_).2.2; exact Bc_27); (case side6 => exact (Kd.R_reads' HO260.out).2.1); rintro e w59 ⟨rfl, hb⟩; refine ⟨_, rfl, ?_⟩; have n0_ := Aside0.mk (Kd.R_below (by (with_reducible repeat (first | apply Kd.R_alloc | apply Kd.R_drewN | apply Kd.R_drew)); exact (Kd.R_mono (Kd.R_far (p := ⟨gb261, 2, none⟩) (Kd.R_far (p := ⟨gb261, 1, none⟩) (Kd.R_far (p := ⟨gb261, 0, none⟩) (Kd.R_types HO248.out BK261.out (by decide)) (fun _ hk => hk.2) (.slice Ao53 t250.length co53)) (fun _ hk => hk.2) (.slice Ao52 t254.length co52)) (fun _ hk => hk.2) (.slice Ao51 t258.length co51)) (fun _ h_ => h_.1))) hb); have n1_ := Aside0.mk (Kd.R_below Bc_25 hb); have n2_ := Aside0.mk (Kd.R_below Bc_26 hb); have n3_ := Aside0.mk (Kd.R_below Bc_27 hb); have n4_ := Aside0.mk (blk_below (g := gb245) (o := .cells #[.slice none 0 0, .slice none 0 0, .slice none 0 0] 39 (0, 0)) Bc_15 hb); have n5_ := Aside0.mk (blk_below (g := gb261) (o := .cells #[.slice Ao53 t250.length co53, .slice Ao52 t254.length co52, .slice Ao51 t258.length co51] 39 (0, 0)) (by (with_reducible repeat (first | refine blk_drewN ?_ _ | refine blk_drew ?_ | refine blk_alloc ?_ _)); refine blk_put (cs := #[.slice Ao53 t250.length co53, .slice Ao52 t254.length co52, .slice none 0 0]) ?_ 2 _ rfl; (with_reducible repeat (first | refine blk_drewN ?_ _ | refine blk_drew ?_ | refine blk_alloc ?_ _)); refine blk_put (cs := #[.slice Ao53 t250.length co53, .slice none 0 0, .slice none 0 0]) ?_ 1 _ rfl; (with_reducible repeat (first | refine blk_drewN ?_ _ | refine blk_drew ?_ | refine blk_alloc ?_ _)); refine blk_put (cs := #[.slice none 0 0, .slice none 0 0, .slice none 0 0]) ?_ 0 _ rfl; (with_reducible repeat (first | refine blk_drewN ?_ _ | refine blk_drew ?_ | refine blk_alloc ?_ _)); exact BK261.out) hb); have n6_ := Aside0.mk (below_step Bc_1 hb); clear HO248; clear HO252; clear HO256; clear HO260; clear BK245; clear BK261; clear HB; have HO248 := n0_; have HO252 := n1_; have HO256 := n2_; have HO260 := n3_; have BK245 := n4_; have BK261 := n5_; have HB := n6_; clear n0_ n1_ n2_ n3_ n4_ n5_ n6_; (try clear hb); (try clear hb2); (try clear hk); (try clear hi); have hcz60_0 : w59.cell? ⟨gb245, 0, none⟩ = some (.slice none 0 0) := (blk_cell BK245.out 0).trans rfl; have hcz60_1 : w59.cell? ⟨gb245, 1, none⟩ = some (.slice none 0 0) := (blk_cell BK245.out 1).trans rfl; have hcz60_2 : w59.cell? ⟨gb245, 2, none⟩ = some (.slice none 0 0) := (blk_cell BK245.out 2).trans rfl; have hfz60_0 := blk_frozen BK245.out 0; have hfz60_1 := blk_frozen BK245.out 1; have hfz60_2 := blk_frozen BK245.out 2))
        refine bodyPost_ret (results_ct rfl _ _ gb245 39 #[.slice none 0 0, .slice none 0 0, .slice none 0 0] (0, 0) _ rfl Bc_10 Try.underlying39 rfl (by kernel_rfl)) rfl ?_
        exact ⟨_, _, _, by first | rfl | (simp [errW_none, errW_some] <;> rfl) | (simp [*, errW_none, errW_some] <;> rfl), by first | exact Kd.R_nil _ _ _ _ _ | exact Kd.N_nil _ _ _ _ _ | exact Kd.V_nil _ _ _ _ _ | exact Kd.Q_nil _ _ _ _ _ | exact Kd.S_nil _ _ _ _ _, by first | exact Kd.R_nil _ _ _ _ _ | exact Kd.N_nil _ _ _ _ _ | exact Kd.V_nil _ _ _ _ _ | exact Kd.Q_nil _ _ _ _ _ | exact Kd.S_nil _ _ _ _ _, by first | exact Kd.R_nil _ _ _ _ _ | exact Kd.N_nil _ _ _ _ _ | exact Kd.V_nil _ _ _ _ _ | exact Kd.Q_nil _ _ _ _ _ | exact Kd.S_nil _ _ _ _ _, by repeat (first | (with_reducible first | exact HB.out | apply below_alloc | apply pw_below_drewN | apply below_drew1 | refine below_set ?_ GE245.out | refine below_set ?_ GE261.out) | exact HB.out)⟩
      ·replace c14 := Bool.eq_false_iff.mpr c14
       subst c14
       have H1 : (some (([] : List Int), ([] : List Int), ([] : List Int), false)) = some (r1, r2, r3, r4) := by rw [if_neg (show ¬ (false = true) by decide)] at H; exact H
       clear H
       have H := H1
       clear H1
       simp only [Option.some.injEq, Prod.mk.injEq] at H
       obtain ⟨rfl, rfl, rfl, rfl⟩ := H
       go_enter Try.func43, Try.ntmps43
       try go_wp2_with (first | ((with_reducible refine gate_dst (N := 2) rfl ?_); refine box_event ?hg (N := 2) ?hd (cs := #[.slice none 0 0, .slice none 0 0, .slice none 0 0]) (t := 39) ?hr ?_; (case hd => rfl); (case hg => rfl); (case hr => first | (go_simp; done) | (go_simp; rfl)); intro gb245 hg w61 hbox hb; have n0_ := Aside0.mk (below_step Bc_7 hb); have n1_ := Aside0.mk (hbox); have n2_ := Aside0.mk ((by rw [hg]; exact (below_size Bc_7) : w.heap.size ≤ gb245)); have n3_ := Aside0.mk ((by rw [hg]; exact (below_size Bc_7) : w.heap.size ≤ gb245)); clear HB; have HB := n0_; have BK245 := n1_; have GW245 := n2_; have GE245 := n3_; clear n0_ n1_ n2_ n3_; clear hb hbox hg) | ((with_reducible refine gate_callee (f := 97) rfl ?_); refine goesL_ (some 13) rfl rfl Try.func97 (by kernel_rfl) rfl #[.string a0, .int .u8 47] rfl Bc_4 ?_; (with_reducible refine (spec_l25Cut.calls k a0 47 t246 _ A5.out).mono ?_); rintro e w62 ⟨v247, rfl, ho0, hb⟩; refine ⟨_, rfl, ?_⟩; have n0_ := Aside0.mk (Kd.R_lower ho0 (below_size Bc_0)); have n1_ := Aside0.mk (blk_below (g := gb245) (o := .cells #[.slice none 0 0, .slice none 0 0, .slice none 0 0] 39 (0, 0)) Bc_2 hb); have n2_ := Aside0.mk (below_step Bc_0 hb); clear BK245; clear HB; have HO248 := n0_; have BK245 := n1_; have HB := n2_; clear n0_ n1_ n2_; (try clear hb); (try clear hb2); (try clear hk); (try clear hi); (try clear ho0); obtain ⟨Ao63, co63, eo63⟩ := Kd.R_slice HO248.out; subst eo63))
       have n0_ := Aside0.mk (Kd.R_drew HO248.out)
       have n1_ := Aside0.mk (blk_drew BK245.out)
       have n2_ := Aside0.mk (below_drew1 HB.out)
       clear HO248
       clear BK245
       clear HB
       have HO248 := n0_
       have BK245 := n1_
       have HB := n2_
       clear n0_ n1_ n2_
       have p249 : 0 ≤ (0 : Int) := (by omega)
       have q249 : 0 < (t246.length : Int) := of_decide_eq_true Bc_11
       obtain ⟨ad249, e249, hx249_0⟩ := Kd.at_string (Kd.R_reads' HO248.out).2.2 0 p249 q249
       cases e249
       have qi249 : (0 < t246.length) = True := eq_true (by omega)
       (try rw [show ((0 : Int)).toNat = 0 from rfl] at hx249_0)
       (try rw [Addr.add_zero'] at hx249_0)
       replace p249 := eq_true p249
       replace q249 := eq_true q249
       have p253 : 0 ≤ (1 : Int) := (by omega)
       have q253 : 1 < (t246.length : Int) := of_decide_eq_true Bc_11
       obtain ⟨ad253, e253, hx253_0⟩ := Kd.at_string (Kd.R_reads' HO248.out).2.2 1 p253 q253
       obtain rfl : ad249 = ad253 := (by injection e253)
       (try simp only [show (1 : Int).toNat = 1 from rfl, Nat.reduceMul, Nat.reduceEqDiff, Go.Addr.add, ↓reduceIte] at hx253_0)
       have qi253 : (1 < t246.length) = True := eq_true (by omega)
       (try rw [show ((1 : Int)).toNat = 1 from rfl] at hx253_0)
       replace p253 := eq_true p253
       replace q253 := eq_true q253
       have p257 : 0 ≤ (2 : Int) := (by omega)
       have q257 : 2 < (t246.length : Int) := of_decide_eq_true Bc_11
       obtain ⟨ad257, e257, hx257_0⟩ := Kd.at_string (Kd.R_reads' HO248.out).2.2 2 p257 q257
       obtain rfl : ad249 = ad257 := (by injection e257)
       (try simp only [show (2 : Int).toNat = 2 from rfl, Nat.reduceMul, Nat.reduceEqDiff, Go.Addr.add, ↓reduceIte] at hx257_0)
       have qi257 : (2 < t246.length) = True := eq_true (by omega)
       (try rw [show ((2 : Int)).toNat = 2 from rfl] at hx257_0)
       replace p257 := eq_true p257
       replace q257 := eq_true q257
       refine start_ (n := 15) (S := fun w' => w'.cell? ad249 = some (.string (rdOf ByteArray.empty t246 0)) ∧ w'.cell? ⟨ad249.block, ad249.off + 1, none⟩ = some (.string (rdOf ByteArray.empty t246 1)) ∧ w'.cell? ⟨ad249.block, ad249.off + 2, none⟩ = some (.string (rdOf ByteArray.empty t246 2))) (ds := []) #[false, false, false, false, false, false, false, false, false, false, false, false, false, false, false] (by kernel_rfl) rfl rfl ⟨hx249_0, hx253_0, hx257_0⟩ (fun hHeld => ?_); refine with_tabW spec_ReadLayout.tab6 spec_ReadLayout.bits6 (fun HT_ HW_ => ?_)
       generalize w62.drew = w64 at HO248 BK245 HB hx249_0 hx253_0 hx257_0 hHeld ⊢
       refine pure_ (i := 0) (N := some 18) (v := ?_) (a' := ?_) #[true, false, false, false, false, false, false, false, false, false, false, false, false, false, false] rfl rfl (any_of HT_.out (by kernel_rfl)) (fun _ _ _ h => h) (Or.inl ⟨by rfl, ?_⟩) ?_ ?_
       rotate_left
       ·intro w'
        go_simp
        with_reducible rfl
       rotate_left
       ·simp only [Act.put, List.setIfInBounds_toArray, List.set_cons_zero, List.set_cons_succ, i64_w, i32_w]
        rfl
       refine pure_ (i := 1) (N := some 19) (v := ?_) (a' := ?_) #[true, true, false, false, false, false, false, false, false, false, false, false, false, false, false] rfl rfl (any_of HT_.out (by kernel_rfl)) (fun _ _ _ h => h) (Or.inl ⟨by rfl, ?_⟩) ?_ ?_
       rotate_left
       ·intro w'
        go_simp
        with_reducible rfl
       rotate_left
       ·simp only [Act.put, List.setIfInBounds_toArray, List.set_cons_zero, List.set_cons_succ, i64_w, i32_w]
        rfl
       refine pure_ (i := 4) (N := some 22) (v := ?_) (a' := ?_) #[true, true, false, false, true, false, false, false, false, false, false, false, false, false, false] rfl rfl (any_of HT_.out (by kernel_rfl)) (fun _ _ _ h => h) (Or.inl ⟨by rfl, ?_⟩) ?_ ?_
       rotate_left
       ·intro w'
        go_simp
        with_reducible rfl
       rotate_left
       ·simp only [Act.put, List.setIfInBounds_toArray, List.set_cons_zero, List.set_cons_succ, i64_w, i32_w]
        rfl
       refine pure_ (i := 5) (N := some 23) (v := ?_) (a' := ?_) #[true, true, false, false, true, true, false, false, false, false, false, false, false, false, false] rfl rfl (any_of HT_.out (by kernel_rfl)) (fun _ _ _ h => h) (Or.inl ⟨by rfl, ?_⟩) ?_ ?_
       rotate_left
       ·intro w'
        go_simp
        with_reducible rfl
       rotate_left
       ·simp only [Act.put, List.setIfInBounds_toArray, List.set_cons_zero, List.set_cons_succ, i64_w, i32_w]
        rfl
       refine pure_ (i := 8) (N := some 26) (v := ?_) (a' := ?_) #[true, true, false, false, true, true, false, false, true, false, false, false, false, false, false] rfl rfl (any_of HT_.out (by kernel_rfl)) (fun _ _ _ h => h) (Or.inl ⟨by rfl, ?_⟩) ?_ ?_
       rotate_left
       ·intro w'
        go_simp
        with_reducible rfl
       rotate_left
       ·simp only [Act.put, List.setIfInBounds_toArray, List.set_cons_zero, List.set_cons_succ, i64_w, i32_w]
        rfl
       refine pure_ (i := 9) (N := some 27) (v := ?_) (a' := ?_) #[true, true, false, false, true, true, false, false, true, true, false, false, false, false, false] rfl rfl (any_of HT_.out (by kernel_rfl)) (fun _ _ _ h => h) (Or.inl ⟨by rfl, ?_⟩) ?_ ?_
       rotate_left
       ·intro w'
        go_simp
        with_reducible rfl
       rotate_left
       ·simp only [Act.put, List.setIfInBounds_toArray, List.set_cons_zero, List.set_cons_succ, i64_w, i32_w]
        rfl
       refine take_ (i := 2) (N := some 20) (v := ?_) (a' := ?_) #[true, true, true, false, true, true, false, false, true, true, false, false, false, false, false] rfl rfl (take_ofW HT_.out HW_.out (by kernel_rfl)) (fun _ _ _ h => h) (Or.inl ⟨by rfl, ?_⟩) hHeld ?_ ?_
       rotate_left
       ·rintro w' ⟨s0, s1, s2⟩
        go_simp
        with_reducible rfl
       rotate_left
       ·simp only [Act.put, List.setIfInBounds_toArray, List.set_cons_zero, List.set_cons_succ, i64_w, i32_w]
        rfl
       refine take_ (i := 6) (N := some 24) (v := ?_) (a' := ?_) #[true, true, true, false, true, true, true, false, true, true, false, false, false, false, false] rfl rfl (take_ofW HT_.out HW_.out (by kernel_rfl)) (fun _ _ _ h => h) (Or.inl ⟨by rfl, ?_⟩) hHeld ?_ ?_
       rotate_left
       ·rintro w' ⟨s0, s1, s2⟩
        go_simp
        with_reducible rfl
       rotate_left
       ·simp only [Act.put, List.setIfInBounds_toArray, List.set_cons_zero, List.set_cons_succ, i64_w, i32_w]
        rfl
       refine take_ (i := 10) (N := some 28) (v := ?_) (a' := ?_) #[true, true, true, false, true, true, true, false, true, true, true, false, false, false, false] rfl rfl (take_ofW HT_.out HW_.out (by kernel_rfl)) (fun _ _ _ h => h) (Or.inl ⟨by rfl, ?_⟩) hHeld ?_ ?_
       rotate_left
       ·rintro w' ⟨s0, s1, s2⟩
        go_simp
        with_reducible rfl
       rotate_left
       ·simp only [Act.put, List.setIfInBounds_toArray, List.set_cons_zero, List.set_cons_succ, i64_w, i32_w]
        rfl
       refine join_ (σ := Value × Value × Value × Nat) 1 #[true, true, true, true, true, true, true, true, true, true, true, true, true, true, false] (fun s_ => [(21, s_.1), (25, s_.2.1), (29, s_.2.2.1), (5, .pointer (some ⟨s_.2.2.2, 0, none⟩)), (30, .agg #[s_.1, s_.2.1, s_.2.2.1])]) (fun s_ w' => (w'.cell? ad249 = some (.string (rdOf ByteArray.empty t246 0)) ∧ w'.cell? ⟨ad249.block, ad249.off + 1, none⟩ = some (.string (rdOf ByteArray.empty t246 1)) ∧ w'.cell? ⟨ad249.block, ad249.off + 2, none⟩ = some (.string (rdOf ByteArray.empty t246 2))) ∧ (Kd.R Kd.string 9 w' w.heap.size (fun _ => True) (.slice (some ad249) t246.length co63) t246) ∧ (Kd.R (Kd.int .i64) 3 w' w.heap.size (fun k_ => some k_ ≠ (s_.2.1 : Value).ownBlock ∧ some k_ ≠ (s_.2.2.1 : Value).ownBlock) s_.1 t250) ∧ (Kd.R (Kd.int .i64) 3 w' w.heap.size (fun k_ => some k_ ≠ (s_.1 : Value).ownBlock ∧ some k_ ≠ (s_.2.2.1 : Value).ownBlock) s_.2.1 t254) ∧ (Kd.R (Kd.int .i64) 3 w' w.heap.size (fun k_ => some k_ ≠ (s_.1 : Value).ownBlock ∧ some k_ ≠ (s_.2.1 : Value).ownBlock) s_.2.2.1 t258) ∧ (w'.heap[gb245]? = some (.cells #[.slice none 0 0, .slice none 0 0, .slice none 0 0] 39 (0, 0))) ∧ (w'.heap[s_.2.2.2]? = some (.cells #[.slice none 0 0, .slice none 0 0, .slice none 0 0] 39 (0, 0))) ∧ (w.heap.size ≤ s_.2.2.2) ∧ (w.heap.size ≤ s_.2.2.2) ∧ (gb245 ≠ s_.2.2.2) ∧ (s_.2.2.2 ≠ gb245) ∧ (Below w.heap.size w w')) ?_ ?_
       rotate_left
       ·intro hCont
        refine two_ (i := 3) (j := 13) (Ni := some 21) (Nj := some 5) #[true, true, true, true, true, true, true, false, true, true, true, false, false, false, false] #[true, true, true, false, true, true, true, false, true, true, true, false, false, true, false] rfl rfl rfl rfl (two_of HT_.out (by kernel_rfl)) (by decide) (by decide) (fun K hK => ?_) (fun K hK => ?_)
        ·skip
         refine goes_ Try.func98 (by kernel_rfl) rfl #[.string (rdOf ByteArray.empty t246 0)] (by rfl) rfl rfl Bc_4 ?_
         with_reducible refine (spec_l25Read.calls k (rdOf ByteArray.empty t246 0) t250 _ A8.out).mono ?_
         rintro e w65 ⟨v251, rfl, ho0, hb⟩
         have HS0_ := (hb.cell (World.block_lt_of_cell? _ _ (hHeld.1))).trans (hHeld.1)
         have HS1_ := (hb.cell (World.block_lt_of_cell? _ _ (hHeld.2.1))).trans (hHeld.2.1)
         have HS2_ := (hb.cell (World.block_lt_of_cell? _ _ (hHeld.2.2))).trans (hHeld.2.2)
         refine ⟨_, rfl, ?_⟩
         have n0_ := Aside0.mk (Kd.R_below Bc_5 hb)
         have n1_ := Aside0.mk (Kd.R_lower ho0 (below_size Bc_0))
         have n2_ := Aside0.mk (blk_below (g := gb245) (o := .cells #[.slice none 0 0, .slice none 0 0, .slice none 0 0] 39 (0, 0)) Bc_2 hb)
         have n3_ := Aside0.mk (below_step Bc_0 hb)
         clear HO248
         clear BK245
         clear HB
         have HO248 := n0_
         have HO252 := n1_
         have BK245 := n2_
         have HB := n3_
         clear n0_ n1_ n2_ n3_
         (try clear hb)
         (try clear hb2)
         (try clear hk)
         (try clear hi)
         (try clear ho0)
         refine hK.out _ _ ⟨HS0_, HS1_, HS2_⟩ (fun hHeld => ?_)
         clear hK K
         refine norm_ (a' := ?_) ?_ ?_
         rotate_left
         ·show Act.put _ (some 21) _ = _
          simp only [Act.put, List.setIfInBounds_toArray, List.set_cons_zero, List.set_cons_succ, i64_w, i32_w]
          rfl
         refine two_ (i := 7) (j := 13) (Ni := some 25) (Nj := some 5) #[true, true, true, true, true, true, true, true, true, true, true, false, false, false, false] #[true, true, true, true, true, true, true, false, true, true, true, false, false, true, false] rfl rfl rfl rfl (two_of HT_.out (by kernel_rfl)) (by decide) (by decide) (fun K hK => ?_) (fun K hK => ?_)
         ·skip
          refine goes_ Try.func98 (by kernel_rfl) rfl #[.string (rdOf ByteArray.empty t246 1)] (by rfl) rfl rfl Bc_4 ?_
          with_reducible refine (spec_l25Read.calls k (rdOf ByteArray.empty t246 1) t254 _ A10.out).mono ?_
          rintro e w66 ⟨v255, rfl, ho0, hb⟩
          have HS0_ := (hb.cell (World.block_lt_of_cell? _ _ (hHeld.1))).trans (hHeld.1)
          have HS1_ := (hb.cell (World.block_lt_of_cell? _ _ (hHeld.2.1))).trans (hHeld.2.1)
          have HS2_ := (hb.cell (World.block_lt_of_cell? _ _ (hHeld.2.2))).trans (hHeld.2.2)
          refine ⟨_, rfl, ?_⟩
          have n0_ := Aside0.mk (Kd.R_below Bc_5 hb)
          have n1_ := Aside0.mk (Kd.R_elder' Bc_6 (Kd.R_base ho0) hb)
          have n2_ := Aside0.mk (Kd.R_lower (Kd.R_new' ho0 (Kd.R_lt Bc_6)) (below_size Bc_0))
          have n3_ := Aside0.mk (blk_below (g := gb245) (o := .cells #[.slice none 0 0, .slice none 0 0, .slice none 0 0] 39 (0, 0)) Bc_2 hb)
          have n4_ := Aside0.mk (below_step Bc_0 hb)
          clear HO248
          clear HO252
          clear BK245
          clear HB
          have HO248 := n0_
          have HO252 := n1_
          have HO256 := n2_
          have BK245 := n3_
          have HB := n4_
          clear n0_ n1_ n2_ n3_ n4_
          (try clear hb)
          (try clear hb2)
          (try clear hk)
          (try clear hi)
          (try clear ho0)
          refine hK.out _ _ ⟨HS0_, HS1_, HS2_⟩ (fun hHeld => ?_)
          clear hK K
          refine norm_ (a' := ?_) ?_ ?_
          rotate_left
          ·show Act.put _ (some 25) _ = _
           simp only [Act.put, List.setIfInBounds_toArray, List.set_cons_zero, List.set_cons_succ, i64_w, i32_w]
           rfl
          refine two_ (i := 11) (j := 13) (Ni := some 29) (Nj := some 5) #[true, true, true, true, true, true, true, true, true, true, true, true, false, false, false] #[true, true, true, true, true, true, true, true, true, true, true, false, false, true, false] rfl rfl rfl rfl (two_of HT_.out (by kernel_rfl)) (by decide) (by decide) (fun K hK => ?_) (fun K hK => ?_)
          ·skip
           refine goes_ Try.func98 (by kernel_rfl) rfl #[.string (rdOf ByteArray.empty t246 2)] (by rfl) rfl rfl Bc_4 ?_
           with_reducible refine (spec_l25Read.calls k (rdOf ByteArray.empty t246 2) t258 _ A12.out).mono ?_
           rintro e w67 ⟨v259, rfl, ho0, hb⟩
           have HS0_ := (hb.cell (World.block_lt_of_cell? _ _ (hHeld.1))).trans (hHeld.1)
           have HS1_ := (hb.cell (World.block_lt_of_cell? _ _ (hHeld.2.1))).trans (hHeld.2.1)
           have HS2_ := (hb.cell (World.block_lt_of_cell? _ _ (hHeld.2.2))).trans (hHeld.2.2)
           refine ⟨_, rfl, ?_⟩
           have n0_ := Aside0.mk (Kd.R_below Bc_5 hb)
           have n1_ := Aside0.mk (Kd.R_elder' Bc_6 (Kd.R_base ho0) hb)
           have n2_ := Aside0.mk (Kd.R_elder' Bc_9 (Kd.R_base ho0) hb)
           have n3_ := Aside0.mk (Kd.R_lower (Kd.R_new' (Kd.R_new' ho0 (Kd.R_lt Bc_6)) (Kd.R_lt Bc_9)) (below_size Bc_0))
           have n4_ := Aside0.mk (blk_below (g := gb245) (o := .cells #[.slice none 0 0, .slice none 0 0, .slice none 0 0] 39 (0, 0)) Bc_2 hb)
           have n5_ := Aside0.mk (below_step Bc_0 hb)
           clear HO248
           clear HO252
           clear HO256
           clear BK245
           clear HB
           have HO248 := n0_
           have HO252 := n1_
           have HO256 := n2_
           have HO260 := n3_
           have BK245 := n4_
           have HB := n5_
           clear n0_ n1_ n2_ n3_ n4_ n5_
           (try clear hb)
           (try clear hb2)
           (try clear hk)
           (try clear hi)
           (try clear ho0)
           obtain ⟨Ao68, co68, eo68⟩ := Kd.R_slice HO260.out
           (first | subst eo68 | (injection eo68 with f1_ f2_ f3_; have f4_ := f1_.symm; have f5_ := f3_.symm; clear f1_ f2_ f3_; subst f4_; subst f5_))
           obtain ⟨Ao69, co69, eo69⟩ := Kd.R_slice HO256.out
           (first | subst eo69 | (injection eo69 with f1_ f2_ f3_; have f4_ := f1_.symm; have f5_ := f3_.symm; clear f1_ f2_ f3_; subst f4_; subst f5_))
           obtain ⟨Ao70, co70, eo70⟩ := Kd.R_slice HO252.out
           (first | subst eo70 | (injection eo70 with f1_ f2_ f3_; have f4_ := f1_.symm; have f5_ := f3_.symm; clear f1_ f2_ f3_; subst f4_; subst f5_))
           refine hK.out _ _ ⟨HS0_, HS1_, HS2_⟩ (fun hHeld => ?_)
           clear hK K
           refine norm_ (a' := ?_) ?_ ?_
           rotate_left
           ·show Act.put _ (some 29) _ = _
            simp only [Act.put, List.setIfInBounds_toArray, List.set_cons_zero, List.set_cons_succ, i64_w, i32_w]
            rfl
           refine pure_ (i := 12) (N := some 30) (v := ?_) (a' := ?_) #[true, true, true, true, true, true, true, true, true, true, true, true, true, false, false] rfl rfl (any_of HT_.out (by kernel_rfl)) (fun _ _ _ h => h) (Or.inl ⟨by rfl, ?_⟩) ?_ ?_
           rotate_left
           ·intro w'
            go_simp
            with_reducible rfl
           rotate_left
           ·simp only [Act.put, List.setIfInBounds_toArray, List.set_cons_zero, List.set_cons_succ, i64_w, i32_w]
            rfl
           refine one_ (i := 13) (N := some 5) #[true, true, true, true, true, true, true, true, true, true, true, true, true, true, false] rfl rfl (one_of HT_.out (by kernel_rfl)) (by decide) (fun K hK => ?_)
           refine box_step ?hg (N := 5) ?hd (cs := #[.slice none 0 0, .slice none 0 0, .slice none 0 0]) (t := 39) ?hr ?_; (case hd => rfl); (case hg => rfl); (case hr => first | (go_simp; done) | (go_simp; rfl))
           intro gb261 hg w71 hbox hb
           have HS0_ := (hb.cell (World.block_lt_of_cell? _ _ (hHeld.1))).trans (hHeld.1)
           have HS1_ := (hb.cell (World.block_lt_of_cell? _ _ (hHeld.2.1))).trans (hHeld.2.1)
           have HS2_ := (hb.cell (World.block_lt_of_cell? _ _ (hHeld.2.2))).trans (hHeld.2.2)
           have n0_ := Aside0.mk (Kd.R_below Bc_5 hb)
           have n1_ := Aside0.mk (Kd.R_below Bc_6 hb)
           have n2_ := Aside0.mk (Kd.R_below Bc_9 hb)
           have n3_ := Aside0.mk (Kd.R_below Bc_31 hb)
           have n4_ := Aside0.mk (blk_below (g := gb245) (o := .cells #[.slice none 0 0, .slice none 0 0, .slice none 0 0] 39 (0, 0)) Bc_2 hb)
           have n5_ := Aside0.mk (below_step Bc_0 hb)
           have n6_ := Aside0.mk (hbox)
           have n7_ := Aside0.mk ((by rw [hg]; exact (below_size Bc_0) : w.heap.size ≤ gb261))
           have n8_ := Aside0.mk ((by rw [hg]; exact (below_size Bc_0) : w.heap.size ≤ gb261))
           have n9_ := Aside0.mk ((by rw [hg]; exact Nat.ne_of_lt (blk_lt (g := gb245) (o := .cells #[.slice none 0 0, .slice none 0 0, .slice none 0 0] 39 (0, 0)) Bc_2) : gb245 ≠ gb261))
           have n10_ := Aside0.mk ((by rw [hg]; exact Nat.ne_of_gt (blk_lt (g := gb245) (o := .cells #[.slice none 0 0, .slice none 0 0, .slice none 0 0] 39 (0, 0)) Bc_2) : gb261 ≠ gb245))
           clear HO248
           clear HO252
           clear HO256
           clear HO260
           clear BK245
           clear HB
           have HO248 := n0_
           have HO252 := n1_
           have HO256 := n2_
           have HO260 := n3_
           have BK245 := n4_
           have HB := n5_
           have BK261 := n6_
           have GW261 := n7_
           have GE261 := n8_
           have NB245_261 := n9_
           have NB261_245 := n10_
           clear n0_ n1_ n2_ n3_ n4_ n5_ n6_ n7_ n8_ n9_ n10_
           clear hb hbox hg
           refine hK.out _ _ ⟨HS0_, HS1_, HS2_⟩ (fun hHeld => ?_)
           clear hK K
           refine norm_ (a' := ?_) ?_ ?_
           rotate_left
           ·show Act.put _ (some 5) _ = _
            simp only [Act.put, List.setIfInBounds_toArray, List.set_cons_zero, List.set_cons_succ, i64_w, i32_w]
            rfl
           exact norm_ Bc_16 (hCont (.slice Ao70 t250.length co70, .slice Ao69 t254.length co69, .slice Ao68 t258.length co68, gb261) _ ⟨hHeld, Bc_5, Bc_12, Bc_13, Bc_14, Bc_2, Bc_8, GW261.out, GE261.out, NB245_261.out, NB261_245.out, Bc_1⟩)
          ·skip
           refine box_step ?hg (N := 5) ?hd (cs := #[.slice none 0 0, .slice none 0 0, .slice none 0 0]) (t := 39) ?hr ?_; (case hd => rfl); (case hg => rfl); (case hr => first | (go_simp; done) | (go_simp; rfl))
           intro gb261 hg w67 hbox hb
           have HS0_ := (hb.cell (World.block_lt_of_cell? _ _ (hHeld.1))).trans (hHeld.1)
           have HS1_ := (hb.cell (World.block_lt_of_cell? _ _ (hHeld.2.1))).trans (hHeld.2.1)
           have HS2_ := (hb.cell (World.block_lt_of_cell? _ _ (hHeld.2.2))).trans (hHeld.2.2)
           have n0_ := Aside0.mk (Kd.R_below Bc_5 hb)
           have n1_ := Aside0.mk (Kd.R_below Bc_6 hb)
           have n2_ := Aside0.mk (Kd.R_below Bc_9 hb)
           have n3_ := Aside0.mk (blk_below (g := gb245) (o := .cells #[.slice none 0 0, .slice none 0 0, .slice none 0 0] 39 (0, 0)) Bc_2 hb)
           have n4_ := Aside0.mk (below_step Bc_0 hb)
           have n5_ := Aside0.mk (hbox)
           have n6_ := Aside0.mk ((by rw [hg]; exact (below_size Bc_0) : w.heap.size ≤ gb261))
           have n7_ := Aside0.mk ((by rw [hg]; exact (below_size Bc_0) : w.heap.size ≤ gb261))
           have n8_ := Aside0.mk ((by rw [hg]; exact Nat.ne_of_lt (blk_lt (g := gb245) (o := .cells #[.slice none 0 0, .slice none 0 0, .slice none 0 0] 39 (0, 0)) Bc_2) : gb245 ≠ gb261))
           have n9_ := Aside0.mk ((by rw [hg]; exact Nat.ne_of_gt (blk_lt (g := gb245) (o := .cells #[.slice none 0 0, .slice none 0 0, .slice none 0 0] 39 (0, 0)) Bc_2) : gb261 ≠ gb245))
           clear HO248
           clear HO252
           clear HO256
           clear BK245
           clear HB
           have HO248 := n0_
           have HO252 := n1_
           have HO256 := n2_
           have BK245 := n3_
           have HB := n4_
           have BK261 := n5_
           have GW261 := n6_
           have GE261 := n7_
           have NB245_261 := n8_
           have NB261_245 := n9_
           clear n0_ n1_ n2_ n3_ n4_ n5_ n6_ n7_ n8_ n9_
           clear hb hbox hg
           refine hK.out _ _ ⟨HS0_, HS1_, HS2_⟩ (fun hHeld => ?_)
           clear hK K
           refine norm_ (a' := ?_) ?_ ?_
           rotate_left
           ·show Act.put _ (some 5) _ = _
            simp only [Act.put, List.setIfInBounds_toArray, List.set_cons_zero, List.set_cons_succ, i64_w, i32_w]
            rfl
           refine one_ (i := 11) (N := some 29) #[true, true, true, true, true, true, true, true, true, true, true, true, false, true, false] rfl rfl (one_of HT_.out (by kernel_rfl)) (by decide) (fun K hK => ?_)
           refine goes_ Try.func98 (by kernel_rfl) rfl #[.string (rdOf ByteArray.empty t246 2)] (by rfl) rfl rfl Bc_4 ?_
           with_reducible refine (spec_l25Read.calls k (rdOf ByteArray.empty t246 2) t258 _ A12.out).mono ?_
           rintro e w68 ⟨v259, rfl, ho0, hb⟩
           have HS0_ := (hb.cell (World.block_lt_of_cell? _ _ (hHeld.1))).trans (hHeld.1)
           have HS1_ := (hb.cell (World.block_lt_of_cell? _ _ (hHeld.2.1))).trans (hHeld.2.1)
           have HS2_ := (hb.cell (World.block_lt_of_cell? _ _ (hHeld.2.2))).trans (hHeld.2.2)
           refine ⟨_, rfl, ?_⟩
           have n0_ := Aside0.mk (Kd.R_below Bc_5 hb)
           have n1_ := Aside0.mk (Kd.R_elder' Bc_6 (Kd.R_base ho0) hb)
           have n2_ := Aside0.mk (Kd.R_elder' Bc_9 (Kd.R_base ho0) hb)
           have n3_ := Aside0.mk (Kd.R_lower (Kd.R_new' (Kd.R_new' ho0 (Kd.R_lt Bc_6)) (Kd.R_lt Bc_9)) (below_size Bc_1))
           have n4_ := Aside0.mk (blk_below (g := gb245) (o := .cells #[.slice none 0 0, .slice none 0 0, .slice none 0 0] 39 (0, 0)) Bc_2 hb)
           have n5_ := Aside0.mk (blk_below (g := gb261) (o := .cells #[.slice none 0 0, .slice none 0 0, .slice none 0 0] 39 (0, 0)) Bc_8 hb)
           have n6_ := Aside0.mk (below_step Bc_1 hb)
           clear HO248
           clear HO252
           clear HO256
           clear BK245
           clear BK261
           clear HB
           have HO248 := n0_
           have HO252 := n1_
           have HO256 := n2_
           have HO260 := n3_
           have BK245 := n4_
           have BK261 := n5_
           have HB := n6_
           clear n0_ n1_ n2_ n3_ n4_ n5_ n6_
           (try clear hb)
           (try clear hb2)
           (try clear hk)
           (try clear hi)
           (try clear ho0)
           obtain ⟨Ao69, co69, eo69⟩ := Kd.R_slice HO260.out
           (first | subst eo69 | (injection eo69 with f1_ f2_ f3_; have f4_ := f1_.symm; have f5_ := f3_.symm; clear f1_ f2_ f3_; subst f4_; subst f5_))
           obtain ⟨Ao70, co70, eo70⟩ := Kd.R_slice HO256.out
           (first | subst eo70 | (injection eo70 with f1_ f2_ f3_; have f4_ := f1_.symm; have f5_ := f3_.symm; clear f1_ f2_ f3_; subst f4_; subst f5_))
           obtain ⟨Ao71, co71, eo71⟩ := Kd.R_slice HO252.out
           (first | subst eo71 | (injection eo71 with f1_ f2_ f3_; have f4_ := f1_.symm; have f5_ := f3_.symm; clear f1_ f2_ f3_; subst f4_; subst f5_))
           refine hK.out _ _ ⟨HS0_, HS1_, HS2_⟩ (fun hHeld => ?_)
           clear hK K
           refine norm_ (a' := ?_) ?_ ?_
           rotate_left
           ·show Act.put _ (some 29) _ = _
            simp only [Act.put, List.setIfInBounds_toArray, List.set_cons_zero, List.set_cons_succ, i64_w, i32_w]
            rfl
           refine pure_ (i := 12) (N := some 30) (v := ?_) (a' := ?_) #[true, true, true, true, true, true, true, true, true, true, true, true, true, true, false] rfl rfl (any_of HT_.out (by kernel_rfl)) (fun _ _ _ h => h) (Or.inl ⟨by rfl, ?_⟩) ?_ ?_
           rotate_left
           ·intro w'
            go_simp
            with_reducible rfl
           rotate_left
           ·simp only [Act.put, List.setIfInBounds_toArray, List.set_cons_zero, List.set_cons_succ, i64_w, i32_w]
            rfl
           exact norm_ Bc_16 (hCont (.slice Ao71 t250.length co71, .slice Ao70 t254.length co70, .slice Ao69 t258.length co69, gb261) _ ⟨hHeld, Bc_5, Bc_12, Bc_13, Bc_14, Bc_2, Bc_8, GW261.out, GE261.out, NB245_261.out, NB261_245.out, Bc_1⟩)
         ·skip
          refine box_step ?hg (N := 5) ?hd (cs := #[.slice none 0 0, .slice none 0 0, .slice none 0 0]) (t := 39) ?hr ?_; (case hd => rfl); (case hg => rfl); (case hr => first | (go_simp; done) | (go_simp; rfl))
          intro gb261 hg w66 hbox hb
          have HS0_ := (hb.cell (World.block_lt_of_cell? _ _ (hHeld.1))).trans (hHeld.1)
          have HS1_ := (hb.cell (World.block_lt_of_cell? _ _ (hHeld.2.1))).trans (hHeld.2.1)
          have HS2_ := (hb.cell (World.block_lt_of_cell? _ _ (hHeld.2.2))).trans (hHeld.2.2)
          have n0_ := Aside0.mk (Kd.R_below Bc_5 hb)
          have n1_ := Aside0.mk (Kd.R_below Bc_6 hb)
          have n2_ := Aside0.mk (blk_below (g := gb245) (o := .cells #[.slice none 0 0, .slice none 0 0, .slice none 0 0] 39 (0, 0)) Bc_2 hb)
          have n3_ := Aside0.mk (below_step Bc_0 hb)
          have n4_ := Aside0.mk (hbox)
          have n5_ := Aside0.mk ((by rw [hg]; exact (below_size Bc_0) : w.heap.size ≤ gb261))
          have n6_ := Aside0.mk ((by rw [hg]; exact (below_size Bc_0) : w.heap.size ≤ gb261))
          have n7_ := Aside0.mk ((by rw [hg]; exact Nat.ne_of_lt (blk_lt (g := gb245) (o := .cells #[.slice none 0 0, .slice none 0 0, .slice none 0 0] 39 (0, 0)) Bc_2) : gb245 ≠ gb261))
          have n8_ := Aside0.mk ((by rw [hg]; exact Nat.ne_of_gt (blk_lt (g := gb245) (o := .cells #[.slice none 0 0, .slice none 0 0, .slice none 0 0] 39 (0, 0)) Bc_2) : gb261 ≠ gb245))
          clear HO248
          clear HO252
          clear BK245
          clear HB
          have HO248 := n0_
          have HO252 := n1_
          have BK245 := n2_
          have HB := n3_
          have BK261 := n4_
          have GW261 := n5_
          have GE261 := n6_
          have NB245_261 := n7_
          have NB261_245 := n8_
          clear n0_ n1_ n2_ n3_ n4_ n5_ n6_ n7_ n8_
          clear hb hbox hg
          refine hK.out _ _ ⟨HS0_, HS1_, HS2_⟩ (fun hHeld => ?_)
          clear hK K
          refine norm_ (a' := ?_) ?_ ?_
          rotate_left
          ·show Act.put _ (some 5) _ = _
           simp only [Act.put, List.setIfInBounds_toArray, List.set_cons_zero, List.set_cons_succ, i64_w, i32_w]
           rfl
          refine one_ (i := 7) (N := some 25) #[true, true, true, true, true, true, true, true, true, true, true, false, false, true, false] rfl rfl (one_of HT_.out (by kernel_rfl)) (by decide) (fun K hK => ?_)
          refine goes_ Try.func98 (by kernel_rfl) rfl #[.string (rdOf ByteArray.empty t246 1)] (by rfl) rfl rfl Bc_4 ?_
          with_reducible refine (spec_l25Read.calls k (rdOf ByteArray.empty t246 1) t254 _ A10.out).mono ?_
          rintro e w67 ⟨v255, rfl, ho0, hb⟩
          have HS0_ := (hb.cell (World.block_lt_of_cell? _ _ (hHeld.1))).trans (hHeld.1)
          have HS1_ := (hb.cell (World.block_lt_of_cell? _ _ (hHeld.2.1))).trans (hHeld.2.1)
          have HS2_ := (hb.cell (World.block_lt_of_cell? _ _ (hHeld.2.2))).trans (hHeld.2.2)
          refine ⟨_, rfl, ?_⟩
          have n0_ := Aside0.mk (Kd.R_below Bc_5 hb)
          have n1_ := Aside0.mk (Kd.R_elder' Bc_6 (Kd.R_base ho0) hb)
          have n2_ := Aside0.mk (Kd.R_lower (Kd.R_new' ho0 (Kd.R_lt Bc_6)) (below_size Bc_1))
          have n3_ := Aside0.mk (blk_below (g := gb245) (o := .cells #[.slice none 0 0, .slice none 0 0, .slice none 0 0] 39 (0, 0)) Bc_2 hb)
          have n4_ := Aside0.mk (blk_below (g := gb261) (o := .cells #[.slice none 0 0, .slice none 0 0, .slice none 0 0] 39 (0, 0)) Bc_8 hb)
          have n5_ := Aside0.mk (below_step Bc_1 hb)
          clear HO248
          clear HO252
          clear BK245
          clear BK261
          clear HB
          have HO248 := n0_
          have HO252 := n1_
          have HO256 := n2_
          have BK245 := n3_
          have BK261 := n4_
          have HB := n5_
          clear n0_ n1_ n2_ n3_ n4_ n5_
          (try clear hb)
          (try clear hb2)
          (try clear hk)
          (try clear hi)
          (try clear ho0)
          refine hK.out _ _ ⟨HS0_, HS1_, HS2_⟩ (fun hHeld => ?_)
          clear hK K
          refine norm_ (a' := ?_) ?_ ?_
          rotate_left
          ·show Act.put _ (some 25) _ = _
           simp only [Act.put, List.setIfInBounds_toArray, List.set_cons_zero, List.set_cons_succ, i64_w, i32_w]
           rfl
          refine one_ (i := 11) (N := some 29) #[true, true, true, true, true, true, true, true, true, true, true, true, false, true, false] rfl rfl (one_of HT_.out (by kernel_rfl)) (by decide) (fun K hK => ?_)
          refine goes_ Try.func98 (by kernel_rfl) rfl #[.string (rdOf ByteArray.empty t246 2)] (by rfl) rfl rfl Bc_4 ?_
          with_reducible refine (spec_l25Read.calls k (rdOf ByteArray.empty t246 2) t258 _ A12.out).mono ?_
          rintro e w68 ⟨v259, rfl, ho0, hb⟩
          have HS0_ := (hb.cell (World.block_lt_of_cell? _ _ (hHeld.1))).trans (hHeld.1)
          have HS1_ := (hb.cell (World.block_lt_of_cell? _ _ (hHeld.2.1))).trans (hHeld.2.1)
          have HS2_ := (hb.cell (World.block_lt_of_cell? _ _ (hHeld.2.2))).trans (hHeld.2.2)
          refine ⟨_, rfl, ?_⟩
          have n0_ := Aside0.mk (Kd.R_below Bc_5 hb)
          have n1_ := Aside0.mk (Kd.R_elder' Bc_6 (Kd.R_base ho0) hb)
          have n2_ := Aside0.mk (Kd.R_elder' Bc_9 (Kd.R_base ho0) hb)
          have n3_ := Aside0.mk (Kd.R_lower (Kd.R_new' (Kd.R_new' ho0 (Kd.R_lt Bc_6)) (Kd.R_lt Bc_9)) (below_size Bc_1))
          have n4_ := Aside0.mk (blk_below (g := gb245) (o := .cells #[.slice none 0 0, .slice none 0 0, .slice none 0 0] 39 (0, 0)) Bc_2 hb)
          have n5_ := Aside0.mk (blk_below (g := gb261) (o := .cells #[.slice none 0 0, .slice none 0 0, .slice none 0 0] 39 (0, 0)) Bc_8 hb)
          have n6_ := Aside0.mk (below_step Bc_1 hb)
          clear HO248
          clear HO252
          clear HO256
          clear BK245
          clear BK261
          clear HB
          have HO248 := n0_
          have HO252 := n1_
          have HO256 := n2_
          have HO260 := n3_
          have BK245 := n4_
          have BK261 := n5_
          have HB := n6_
          clear n0_ n1_ n2_ n3_ n4_ n5_ n6_
          (try clear hb)
          (try clear hb2)
          (try clear hk)
          (try clear hi)
          (try clear ho0)
          obtain ⟨Ao69, co69, eo69⟩ := Kd.R_slice HO260.out
          (first | subst eo69 | (injection eo69 with f1_ f2_ f3_; have f4_ := f1_.symm; have f5_ := f3_.symm; clear f1_ f2_ f3_; subst f4_; subst f5_))
          obtain ⟨Ao70, co70, eo70⟩ := Kd.R_slice HO256.out
          (first | subst eo70 | (injection eo70 with f1_ f2_ f3_; have f4_ := f1_.symm; have f5_ := f3_.symm; clear f1_ f2_ f3_; subst f4_; subst f5_))
          obtain ⟨Ao71, co71, eo71⟩ := Kd.R_slice HO252.out
          (first | subst eo71 | (injection eo71 with f1_ f2_ f3_; have f4_ := f1_.symm; have f5_ := f3_.symm; clear f1_ f2_ f3_; subst f4_; subst f5_))
          refine hK.out _ _ ⟨HS0_, HS1_, HS2_⟩ (fun hHeld => ?_)
          clear hK K
          refine norm_ (a' := ?_) ?_ ?_
          rotate_left
          ·show Act.put _ (some 29) _ = _
           simp only [Act.put, List.setIfInBounds_toArray, List.set_cons_zero, List.set_cons_succ, i64_w, i32_w]
           rfl
          refine pure_ (i := 12) (N := some 30) (v := ?_) (a' := ?_) #[true, true, true, true, true, true, true, true, true, true, true, true, true, true, false] rfl rfl (any_of HT_.out (by kernel_rfl)) (fun _ _ _ h => h) (Or.inl ⟨by rfl, ?_⟩) ?_ ?_
          rotate_left
          ·intro w'
           go_simp
           with_reducible rfl
          rotate_left
          ·simp only [Act.put, List.setIfInBounds_toArray, List.set_cons_zero, List.set_cons_succ, i64_w, i32_w]
           rfl
          exact norm_ Bc_16 (hCont (.slice Ao71 t250.length co71, .slice Ao70 t254.length co70, .slice Ao69 t258.length co69, gb261) _ ⟨hHeld, Bc_5, Bc_12, Bc_13, Bc_14, Bc_2, Bc_8, GW261.out, GE261.out, NB245_261.out, NB261_245.out, Bc_1⟩)
        ·skip
         refine box_step ?hg (N := 5) ?hd (cs := #[.slice none 0 0, .slice none 0 0, .slice none 0 0]) (t := 39) ?hr ?_; (case hd => rfl); (case hg => rfl); (case hr => first | (go_simp; done) | (go_simp; rfl))
         intro gb261 hg w65 hbox hb
         have HS0_ := (hb.cell (World.block_lt_of_cell? _ _ (hHeld.1))).trans (hHeld.1)
         have HS1_ := (hb.cell (World.block_lt_of_cell? _ _ (hHeld.2.1))).trans (hHeld.2.1)
         have HS2_ := (hb.cell (World.block_lt_of_cell? _ _ (hHeld.2.2))).trans (hHeld.2.2)
         have n0_ := Aside0.mk (Kd.R_below Bc_5 hb)
         have n1_ := Aside0.mk (blk_below (g := gb245) (o := .cells #[.slice none 0 0, .slice none 0 0, .slice none 0 0] 39 (0, 0)) Bc_2 hb)
         have n2_ := Aside0.mk (below_step Bc_0 hb)
         have n3_ := Aside0.mk (hbox)
         have n4_ := Aside0.mk ((by rw [hg]; exact (below_size Bc_0) : w.heap.size ≤ gb261))
         have n5_ := Aside0.mk ((by rw [hg]; exact (below_size Bc_0) : w.heap.size ≤ gb261))
         have n6_ := Aside0.mk ((by rw [hg]; exact Nat.ne_of_lt (blk_lt (g := gb245) (o := .cells #[.slice none 0 0, .slice none 0 0, .slice none 0 0] 39 (0, 0)) Bc_2) : gb245 ≠ gb261))
         have n7_ := Aside0.mk ((by rw [hg]; exact Nat.ne_of_gt (blk_lt (g := gb245) (o := .cells #[.slice none 0 0, .slice none 0 0, .slice none 0 0] 39 (0, 0)) Bc_2) : gb261 ≠ gb245))
         clear HO248
         clear BK245
         clear HB
         have HO248 := n0_
         have BK245 := n1_
         have HB := n2_
         have BK261 := n3_
         have GW261 := n4_
         have GE261 := n5_
         have NB245_261 := n6_
         have NB261_245 := n7_
         clear n0_ n1_ n2_ n3_ n4_ n5_ n6_ n7_
         clear hb hbox hg
         refine hK.out _ _ ⟨HS0_, HS1_, HS2_⟩ (fun hHeld => ?_)
         clear hK K
         refine norm_ (a' := ?_) ?_ ?_
         rotate_left
         ·show Act.put _ (some 5) _ = _
          simp only [Act.put, List.setIfInBounds_toArray, List.set_cons_zero, List.set_cons_succ, i64_w, i32_w]
          rfl
         refine one_ (i := 3) (N := some 21) #[true, true, true, true, true, true, true, false, true, true, true, false, false, true, false] rfl rfl (one_of HT_.out (by kernel_rfl)) (by decide) (fun K hK => ?_)
         refine goes_ Try.func98 (by kernel_rfl) rfl #[.string (rdOf ByteArray.empty t246 0)] (by rfl) rfl rfl Bc_4 ?_
         with_reducible refine (spec_l25Read.calls k (rdOf ByteArray.empty t246 0) t250 _ A8.out).mono ?_
         rintro e w66 ⟨v251, rfl, ho0, hb⟩
         have HS0_ := (hb.cell (World.block_lt_of_cell? _ _ (hHeld.1))).trans (hHeld.1)
         have HS1_ := (hb.cell (World.block_lt_of_cell? _ _ (hHeld.2.1))).trans (hHeld.2.1)
         have HS2_ := (hb.cell (World.block_lt_of_cell? _ _ (hHeld.2.2))).trans (hHeld.2.2)
         refine ⟨_, rfl, ?_⟩
         have n0_ := Aside0.mk (Kd.R_below Bc_5 hb)
         have n1_ := Aside0.mk (Kd.R_lower ho0 (below_size Bc_1))
         have n2_ := Aside0.mk (blk_below (g := gb245) (o := .cells #[.slice none 0 0, .slice none 0 0, .slice none 0 0] 39 (0, 0)) Bc_2 hb)
         have n3_ := Aside0.mk (blk_below (g := gb261) (o := .cells #[.slice none 0 0, .slice none 0 0, .slice none 0 0] 39 (0, 0)) Bc_8 hb)
         have n4_ := Aside0.mk (below_step Bc_1 hb)
         clear HO248
         clear BK245
         clear BK261
         clear HB
         have HO248 := n0_
         have HO252 := n1_
         have BK245 := n2_
         have BK261 := n3_
         have HB := n4_
         clear n0_ n1_ n2_ n3_ n4_
         (try clear hb)
         (try clear hb2)
         (try clear hk)
         (try clear hi)
         (try clear ho0)
         refine hK.out _ _ ⟨HS0_, HS1_, HS2_⟩ (fun hHeld => ?_)
         clear hK K
         refine norm_ (a' := ?_) ?_ ?_
         rotate_left
         ·show Act.put _ (some 21) _ = _
          simp only [Act.put, List.setIfInBounds_toArray, List.set_cons_zero, List.set_cons_succ, i64_w, i32_w]
          rfl
         refine one_ (i := 7) (N := some 25) #[true, true, true, true, true, true, true, true, true, true, true, false, false, true, false] rfl rfl (one_of HT_.out (by kernel_rfl)) (by decide) (fun K hK => ?_)
         refine goes_ Try.func98 (by kernel_rfl) rfl #[.string (rdOf ByteArray.empty t246 1)] (by rfl) rfl rfl Bc_4 ?_
         with_reducible refine (spec_l25Read.calls k (rdOf ByteArray.empty t246 1) t254 _ A10.out).mono ?_
         rintro e w67 ⟨v255, rfl, ho0, hb⟩
         have HS0_ := (hb.cell (World.block_lt_of_cell? _ _ (hHeld.1))).trans (hHeld.1)
         have HS1_ := (hb.cell (World.block_lt_of_cell? _ _ (hHeld.2.1))).trans (hHeld.2.1)
         have HS2_ := (hb.cell (World.block_lt_of_cell? _ _ (hHeld.2.2))).trans (hHeld.2.2)
         refine ⟨_, rfl, ?_⟩
         have n0_ := Aside0.mk (Kd.R_below Bc_5 hb)
         have n1_ := Aside0.mk (Kd.R_elder' Bc_6 (Kd.R_base ho0) hb)
         have n2_ := Aside0.mk (Kd.R_lower (Kd.R_new' ho0 (Kd.R_lt Bc_6)) (below_size Bc_1))
         have n3_ := Aside0.mk (blk_below (g := gb245) (o := .cells #[.slice none 0 0, .slice none 0 0, .slice none 0 0] 39 (0, 0)) Bc_2 hb)
         have n4_ := Aside0.mk (blk_below (g := gb261) (o := .cells #[.slice none 0 0, .slice none 0 0, .slice none 0 0] 39 (0, 0)) Bc_8 hb)
         have n5_ := Aside0.mk (below_step Bc_1 hb)
         clear HO248
         clear HO252
         clear BK245
         clear BK261
         clear HB
         have HO248 := n0_
         have HO252 := n1_
         have HO256 := n2_
         have BK245 := n3_
         have BK261 := n4_
         have HB := n5_
         clear n0_ n1_ n2_ n3_ n4_ n5_
         (try clear hb)
         (try clear hb2)
         (try clear hk)
         (try clear hi)
         (try clear ho0)
         refine hK.out _ _ ⟨HS0_, HS1_, HS2_⟩ (fun hHeld => ?_)
         clear hK K
         refine norm_ (a' := ?_) ?_ ?_
         rotate_left
         ·show Act.put _ (some 25) _ = _
          simp only [Act.put, List.setIfInBounds_toArray, List.set_cons_zero, List.set_cons_succ, i64_w, i32_w]
          rfl
         refine one_ (i := 11) (N := some 29) #[true, true, true, true, true, true, true, true, true, true, true, true, false, true, false] rfl rfl (one_of HT_.out (by kernel_rfl)) (by decide) (fun K hK => ?_)
         refine goes_ Try.func98 (by kernel_rfl) rfl #[.string (rdOf ByteArray.empty t246 2)] (by rfl) rfl rfl Bc_4 ?_
         with_reducible refine (spec_l25Read.calls k (rdOf ByteArray.empty t246 2) t258 _ A12.out).mono ?_
         rintro e w68 ⟨v259, rfl, ho0, hb⟩
         have HS0_ := (hb.cell (World.block_lt_of_cell? _ _ (hHeld.1))).trans (hHeld.1)
         have HS1_ := (hb.cell (World.block_lt_of_cell? _ _ (hHeld.2.1))).trans (hHeld.2.1)
         have HS2_ := (hb.cell (World.block_lt_of_cell? _ _ (hHeld.2.2))).trans (hHeld.2.2)
         refine ⟨_, rfl, ?_⟩
         have n0_ := Aside0.mk (Kd.R_below Bc_5 hb)
         have n1_ := Aside0.mk (Kd.R_elder' Bc_6 (Kd.R_base ho0) hb)
         have n2_ := Aside0.mk (Kd.R_elder' Bc_9 (Kd.R_base ho0) hb)
         have n3_ := Aside0.mk (Kd.R_lower (Kd.R_new' (Kd.R_new' ho0 (Kd.R_lt Bc_6)) (Kd.R_lt Bc_9)) (below_size Bc_1))
         have n4_ := Aside0.mk (blk_below (g := gb245) (o := .cells #[.slice none 0 0, .slice none 0 0, .slice none 0 0] 39 (0, 0)) Bc_2 hb)
         have n5_ := Aside0.mk (blk_below (g := gb261) (o := .cells #[.slice none 0 0, .slice none 0 0, .slice none 0 0] 39 (0, 0)) Bc_8 hb)
         have n6_ := Aside0.mk (below_step Bc_1 hb)
         clear HO248
         clear HO252
         clear HO256
         clear BK245
         clear BK261
         clear HB
         have HO248 := n0_
         have HO252 := n1_
         have HO256 := n2_
         have HO260 := n3_
         have BK245 := n4_
         have BK261 := n5_
         have HB := n6_
         clear n0_ n1_ n2_ n3_ n4_ n5_ n6_
         (try clear hb)
         (try clear hb2)
         (try clear hk)
         (try clear hi)
         (try clear ho0)
         obtain ⟨Ao69, co69, eo69⟩ := Kd.R_slice HO260.out
         (first | subst eo69 | (injection eo69 with f1_ f2_ f3_; have f4_ := f1_.symm; have f5_ := f3_.symm; clear f1_ f2_ f3_; subst f4_; subst f5_))
         obtain ⟨Ao70, co70, eo70⟩ := Kd.R_slice HO256.out
         (first | subst eo70 | (injection eo70 with f1_ f2_ f3_; have f4_ := f1_.symm; have f5_ := f3_.symm; clear f1_ f2_ f3_; subst f4_; subst f5_))
         obtain ⟨Ao71, co71, eo71⟩ := Kd.R_slice HO252.out
         (first | subst eo71 | (injection eo71 with f1_ f2_ f3_; have f4_ := f1_.symm; have f5_ := f3_.symm; clear f1_ f2_ f3_; subst f4_; subst f5_))
         refine hK.out _ _ ⟨HS0_, HS1_, HS2_⟩ (fun hHeld => ?_)
         clear hK K
         refine norm_ (a' := ?_) ?_ ?_
         rotate_left
         ·show Act.put _ (some 29) _ = _
          simp only [Act.put, List.setIfInBounds_toArray, List.set_cons_zero, List.set_cons_succ, i64_w, i32_w]
          rfl
         refine pure_ (i := 12) (N := some 30) (v := ?_) (a' := ?_) #[true, true, true, true, true, true, true, true, true, true, true, true, true, true, false] rfl rfl (any_of HT_.out (by kernel_rfl)) (fun _ _ _ h => h) (Or.inl ⟨by rfl, ?_⟩) ?_ ?_
         rotate_left
         ·intro w'
          go_simp
          with_reducible rfl
         rotate_left
         ·simp only [Act.put, List.setIfInBounds_toArray, List.set_cons_zero, List.set_cons_succ, i64_w, i32_w]
          rfl
         exact norm_ Bc_16 (hCont (.slice Ao71 t250.length co71, .slice Ao70 t254.length co70, .slice Ao69 t258.length co69, gb261) _ ⟨hHeld, Bc_5, Bc_12, Bc_13, Bc_14, Bc_2, Bc_8, GW261.out, GE261.out, NB245_261.out, NB261_245.out, Bc_1⟩)
       rintro ⟨v251, v255, v259, gb261⟩ w72 ⟨hS_, h0_, h1_, h2_, h3_, h4_, h5_, h6_, h7_, h8_, h9_, h10_⟩
       have n0_ : Aside0 (Kd.R Kd.string 9 w72 w.heap.size (fun _ => True) (.slice (some ad249) t246.length co63) t246) := ⟨h0_⟩
       have n1_ : Aside0 (Kd.R (Kd.int .i64) 3 w72 w.heap.size (fun k_ => some k_ ≠ (v255 : Value).ownBlock ∧ some k_ ≠ (v259 : Value).ownBlock) v251 t250) := ⟨h1_⟩
       have n2_ : Aside0 (Kd.R (Kd.int .i64) 3 w72 w.heap.size (fun k_ => some k_ ≠ (v251 : Value).ownBlock ∧ some k_ ≠ (v259 : Value).ownBlock) v255 t254) := ⟨h2_⟩
       have n3_ : Aside0 (Kd.R (Kd.int .i64) 3 w72 w.heap.size (fun k_ => some k_ ≠ (v251 : Value).ownBlock ∧ some k_ ≠ (v255 : Value).ownBlock) v259 t258) := ⟨h3_⟩
       have n4_ : Aside0 (w72.heap[gb245]? = some (.cells #[.slice none 0 0, .slice none 0 0, .slice none 0 0] 39 (0, 0))) := ⟨h4_⟩
       have n5_ : Aside0 (w72.heap[gb261]? = some (.cells #[.slice none 0 0, .slice none 0 0, .slice none 0 0] 39 (0, 0))) := ⟨h5_⟩
       have n6_ : Aside0 (w.heap.size ≤ gb261) := ⟨h6_⟩
       have n7_ : Aside0 (w.heap.size ≤ gb261) := ⟨h7_⟩
       have n8_ : Aside0 (gb245 ≠ gb261) := ⟨h8_⟩
       have n9_ : Aside0 (gb261 ≠ gb245) := ⟨h9_⟩
       have n10_ : Aside0 (Below w.heap.size w w72) := ⟨h10_⟩
       clear HO248
       clear BK245
       clear HB
       clear h0_ h1_ h2_ h3_ h4_ h5_ h6_ h7_ h8_ h9_ h10_
       have HO248 := n0_
       have HO252 := n1_
       have HO256 := n2_
       have HO260 := n3_
       have BK245 := n4_
       have BK261 := n5_
       have GW261 := n6_
       have GE261 := n7_
       have NB245_261 := n8_
       have NB261_245 := n9_
       have HB := n10_
       clear n0_ n1_ n2_ n3_ n4_ n5_ n6_ n7_ n8_ n9_ n10_
       have hHeld : w72.cell? ad249 = some (.string (rdOf ByteArray.empty t246 0)) ∧ w72.cell? ⟨ad249.block, ad249.off + 1, none⟩ = some (.string (rdOf ByteArray.empty t246 1)) ∧ w72.cell? ⟨ad249.block, ad249.off + 2, none⟩ = some (.string (rdOf ByteArray.empty t246 2)) := hS_
       obtain ⟨Ao73, co73, eo73⟩ := Kd.R_slice HO260.out
       (first | subst eo73 | (injection eo73 with f1_ f2_ f3_; have f4_ := f1_.symm; have f5_ := f3_.symm; clear f1_ f2_ f3_; subst f4_; subst f5_))
       obtain ⟨Ao74, co74, eo74⟩ := Kd.R_slice HO256.out
       (first | subst eo74 | (injection eo74 with f1_ f2_ f3_; have f4_ := f1_.symm; have f5_ := f3_.symm; clear f1_ f2_ f3_; subst f4_; subst f5_))
       obtain ⟨Ao75, co75, eo75⟩ := Kd.R_slice HO252.out
       (first | subst eo75 | (injection eo75 with f1_ f2_ f3_; have f4_ := f1_.symm; have f5_ := f3_.symm; clear f1_ f2_ f3_; subst f4_; subst f5_))
       refine norm_ (a' := ?_) ?_ ?_
       rotate_left
       ·simp only [putAll, Act.put, List.setIfInBounds_toArray, List.set_cons_zero, List.set_cons_succ]
        rfl
       refine one_ (i := 14) (N := none) #[true, true, true, true, true, true, true, true, true, true, true, true, true, true, true] rfl rfl (one_of HT_.out (by kernel_rfl)) (by decide) (fun K hK => ?_)
       have hs76 : w72.cell? ⟨gb261, 0, none⟩ = some (.slice none 0 0) := (blk_cell BK261.out 0).trans rfl
       have hfs76 := blk_frozen BK261.out 0
       have hns76_0 := NB245_261.out
       have hms76_0 := NB261_245.out
       have hs77 : w72.cell? ⟨gb261, 1, none⟩ = some (.slice none 0 0) := (blk_cell BK261.out 1).trans rfl
       have hfs77 := blk_frozen BK261.out 1
       have hns77_0 := NB245_261.out
       have hms77_0 := NB261_245.out
       have hs78 : w72.cell? ⟨gb261, 2, none⟩ = some (.slice none 0 0) := (blk_cell BK261.out 2).trans rfl
       have hfs78 := blk_frozen BK261.out 2
       have hns78_0 := NB245_261.out
       have hms78_0 := NB261_245.out
       refine skip_ (w1 := ?_) (by rfl) rfl ?_ ?_
       rotate_left
       ·go_simp
        rfl
       refine hK.out _ _ ⟨((cell_far (p := ⟨gb261, _, none⟩) Bc_3 _).trans (((cell_far (p := ⟨gb261, _, none⟩) Bc_3 _).trans (((cell_far (p := ⟨gb261, _, none⟩) Bc_3 _).trans (hHeld.1)))))), ((cell_far (p := ⟨gb261, _, none⟩) Bc_3 _).trans (((cell_far (p := ⟨gb261, _, none⟩) Bc_3 _).trans (((cell_far (p := ⟨gb261, _, none⟩) Bc_3 _).trans (hHeld.2.1)))))), ((cell_far (p := ⟨gb261, _, none⟩) Bc_3 _).trans (((cell_far (p := ⟨gb261, _, none⟩) Bc_3 _).trans (((cell_far (p := ⟨gb261, _, none⟩) Bc_3 _).trans (hHeld.2.2))))))⟩ (fun hHeld => ?_)
       clear hK K
       refine done_ (done_of HT_.out (by kernel_rfl)) ?_
       have hnb79 := NB261_245.out
       have hnc79 := NB245_261.out
       have hcz80_0 : w72.cell? ⟨gb261, 0, none⟩ = some (.slice none 0 0) := (blk_cell BK261.out 0).trans rfl
       have hcz80_1 : w72.cell? ⟨gb261, 1, none⟩ = some (.slice none 0 0) := (blk_cell BK261.out 1).trans rfl
       have hcz80_2 : w72.cell? ⟨gb261, 2, none⟩ = some (.slice none 0 0) := (blk_cell BK261.out 2).trans rfl
       have hfz80_0 := blk_frozen BK261.out 0
       have hfz80_1 := blk_frozen BK261.out 1
       have hfz80_2 := blk_frozen BK261.out 2
       try go_wp2_with (first | ((with_reducible refine gate_callee (f := 99) rfl ?_); refine goesL_ (some 33) rfl rfl Try.func99 (by kernel_rfl) rfl #[.agg #[.slice Ao75 t250.length co75, .slice Ao74 t254.length co74, .slice Ao73 t258.length co73]] rfl Bc_4 ?_; (with_reducible refine (spec_LayoutText.calls k _ _ t250 _ _ t254 _ _ t258 t262 false _ ?side1 ?side2 ?side3 ?side4 ?side5 ?side6 A13.out).mono ?_); (case side1 => refine (Kd.R_reads' (e := 3) (base := w.heap.size) (ok := fun k_ => (some k_ ≠ (.slice Ao74 t254.length co74 : Value).ownBlock ∧ some k_ ≠ (.slice Ao73 t258.length co73 : Value).ownBlock)) (n := t250.length) (c := co75) ?_).2.2; exact Bc_28); (case side2 => exact (Kd.R_reads' HO252.out).2.1); (case side3 => refine (Kd.R_reads' (e := 3) (base := w.heap.size) (ok := fun k_ => (some k_ ≠ (.slice Ao75 t250.length co75 : Value).ownBlock ∧ some k_ ≠ (.slice Ao73 t258.length co73 : Value).ownBlock)) (n := t254.length) (c := co74) ?_).2.2; exact Bc_29); (case side4 => exact (Kd.R_reads' HO256.out).2.1); (case side5 => refine (Kd.R_reads' (e := 3) (base := w.heap.size) (ok := fun k_ => (some k_ ≠ (.slice Ao75 t250.length co75 : Value).ownBlock ∧ some k_ ≠ (.slice Ao74 t254.length co74 : Value).ownBlock)) (n := t258.length) (c := co73) ?_).2.2; exact Bc_30); (case side6 => exact (Kd.R_reads' HO260.out).2.1); rintro e w81 ⟨rfl, hb⟩; refine ⟨_, rfl, ?_⟩; have n0_ := Aside0.mk (Kd.R_below (by (with_reducible repeat (first | apply Kd.R_alloc | apply Kd.R_drewN | apply Kd.R_drew)); exact (Kd.R_mono (Kd.R_far (p := ⟨gb261, 2, none⟩) (Kd.R_far (p := ⟨gb261, 1, none⟩) (Kd.R_far (p := ⟨gb261, 0, none⟩) (Kd.R_types HO248.out BK261.out (by decide)) (fun _ hk => hk.2) (.slice Ao75 t250.length co75)) (fun _ hk => hk.2) (.slice Ao74 t254.length co74)) (fun _ hk => hk.2) (.slice Ao73 t258.length co73)) (fun _ h_ => h_.1))) hb); have n1_ := Aside0.mk (Kd.R_below Bc_28 hb); have n2_ := Aside0.mk (Kd.R_below Bc_29 hb); have n3_ := Aside0.mk (Kd.R_below Bc_30 hb); have n4_ := Aside0.mk (blk_below (g := gb245) (o := .cells #[.slice none 0 0, .slice none 0 0, .slice none 0 0] 39 (0, 0)) Bc_15 hb); have n5_ := Aside0.mk (blk_below (g := gb261) (o := .cells #[.slice Ao75 t250.length co75, .slice Ao74 t254.length co74, .slice Ao73 t258.length co73] 39 (0, 0)) (by (with_reducible repeat (first | refine blk_drewN ?_ _ | refine blk_drew ?_ | refine blk_alloc ?_ _)); refine blk_put (cs := #[.slice Ao75 t250.length co75, .slice Ao74 t254.length co74, .slice none 0 0]) ?_ 2 _ rfl; (with_reducible repeat (first | refine blk_drewN ?_ _ | refine blk_drew ?_ | refine blk_alloc ?_ _)); refine blk_put (cs := #[.slice Ao75 t250.length co75, .slice none 0 0, .slice none 0 0]) ?_ 1 _ rfl; (with_reducible repeat (first | refine blk_drewN ?_ _ | refine blk_drew ?_ | refine blk_alloc ?_ _)); refine blk_put (cs := #[.slice none 0 0, .slice none 0 0, .slice none 0 0]) ?_ 0 _ rfl; (with_reducible repeat (first | refine blk_drewN ?_ _ | refine blk_drew ?_ | refine blk_alloc ?_ _)); exact BK261.out) hb); have n6_ := Aside0.mk (below_step Bc_1 hb); clear HO248; clear HO252; clear HO256; clear HO260; clear BK245; clear BK261; clear HB; have HO248 := n0_; have HO252 := n1_; have HO256 := n2_; have HO260 := n3_; have BK245 := n4_; have BK261 := n5_; have HB := n6_; clear n0_ n1_ n2_ n3_ n4_ n5_ n6_; (try clear hb); (try clear hb2); (try clear hk); (try clear hi); have hcz82_0 : w81.cell? ⟨gb245, 0, none⟩ = some (.slice none 0 0) := (blk_cell BK245.out 0).trans rfl; have hcz82_1 : w81.cell? ⟨gb245, 1, none⟩ = some (.slice none 0 0) := (blk_cell BK245.out 1).trans rfl; have hcz82_2 : w81.cell? ⟨gb245, 2, none⟩ = some (.slice none 0 0) := (blk_cell BK245.out 2).trans rfl; have hfz82_0 := blk_frozen BK245.out 0; have hfz82_1 := blk_frozen BK245.out 1; have hfz82_2 := blk_frozen BK245.out 2))
       refine bodyPost_ret (results_ct rfl _ _ gb245 39 #[.slice none 0 0, .slice none 0 0, .slice none 0 0] (0, 0) _ rfl Bc_10 Try.underlying39 rfl (by kernel_rfl)) rfl ?_
       exact ⟨_, _, _, by first | rfl | (simp [errW_none, errW_some] <;> rfl) | (simp [*, errW_none, errW_some] <;> rfl), by first | exact Kd.R_nil _ _ _ _ _ | exact Kd.N_nil _ _ _ _ _ | exact Kd.V_nil _ _ _ _ _ | exact Kd.Q_nil _ _ _ _ _ | exact Kd.S_nil _ _ _ _ _, by first | exact Kd.R_nil _ _ _ _ _ | exact Kd.N_nil _ _ _ _ _ | exact Kd.V_nil _ _ _ _ _ | exact Kd.Q_nil _ _ _ _ _ | exact Kd.S_nil _ _ _ _ _, by first | exact Kd.R_nil _ _ _ _ _ | exact Kd.N_nil _ _ _ _ _ | exact Kd.V_nil _ _ _ _ _ | exact Kd.Q_nil _ _ _ _ _ | exact Kd.S_nil _ _ _ _ _, by repeat (first | (with_reducible first | exact HB.out | apply below_alloc | apply pw_below_drewN | apply below_drew1 | refine below_set ?_ GE245.out | refine below_set ?_ GE261.out) | exact HB.out)⟩
     ·rw [if_neg c11] at H
      exact absurd H (by simp)
    ·rw [if_neg c9] at H
     exact absurd H (by simp)
   ·rw [if_neg c7] at H
    exact absurd H (by simp)
  ·rw [if_neg c6] at H
   have c6b0 : ((t246.length : Int) == 3) = false := beq_eq_false_iff_ne.mpr c6
   have c6b1 : ((t246.length : Int) != 3) = true := bne_iff_ne.mpr c6
   simp only [Option.some.injEq, Prod.mk.injEq] at H
   obtain ⟨rfl, rfl, rfl, rfl⟩ := H
   go_enter Try.func43, Try.ntmps43
   go_wp2_with (first | ((with_reducible refine gate_dst (N := 2) rfl ?_); refine box_event ?hg (N := 2) ?hd (cs := #[.slice none 0 0, .slice none 0 0, .slice none 0 0]) (t := 39) ?hr ?_; (case hd => rfl); (case hg => rfl); (case hr => first | (go_simp; done) | (go_simp; rfl)); intro gb245 hg w83 hbox hb; have n0_ := Aside0.mk (below_step Bc_7 hb); have n1_ := Aside0.mk (hbox); have n2_ := Aside0.mk ((by rw [hg]; exact (below_size Bc_7) : w.heap.size ≤ gb245)); have n3_ := Aside0.mk ((by rw [hg]; exact (below_size Bc_7) : w.heap.size ≤ gb245)); clear HB; have HB := n0_; have BK245 := n1_; have GW245 := n2_; have GE245 := n3_; clear n0_ n1_ n2_ n3_; clear hb hbox hg) | ((with_reducible refine gate_callee (f := 97) rfl ?_); refine goesL_ (some 13) rfl rfl Try.func97 (by kernel_rfl) rfl #[.string a0, .int .u8 47] rfl Bc_4 ?_; (with_reducible refine (spec_l25Cut.calls k a0 47 t246 _ A5.out).mono ?_); rintro e w84 ⟨v247, rfl, ho0, hb⟩; refine ⟨_, rfl, ?_⟩; have n0_ := Aside0.mk (Kd.R_lower ho0 (below_size Bc_0)); have n1_ := Aside0.mk (blk_below (g := gb245) (o := .cells #[.slice none 0 0, .slice none 0 0, .slice none 0 0] 39 (0, 0)) Bc_2 hb); have n2_ := Aside0.mk (below_step Bc_0 hb); clear BK245; clear HB; have HO248 := n0_; have BK245 := n1_; have HB := n2_; clear n0_ n1_ n2_; (try clear hb); (try clear hb2); (try clear hk); (try clear hi); (try clear ho0); obtain ⟨Ao85, co85, eo85⟩ := Kd.R_slice HO248.out; subst eo85; have hcz86_0 : w84.cell? ⟨gb245, 0, none⟩ = some (.slice none 0 0) := (blk_cell BK245.out 0).trans rfl; have hcz86_1 : w84.cell? ⟨gb245, 1, none⟩ = some (.slice none 0 0) := (blk_cell BK245.out 1).trans rfl; have hcz86_2 : w84.cell? ⟨gb245, 2, none⟩ = some (.slice none 0 0) := (blk_cell BK245.out 2).trans rfl; have hfz86_0 := blk_frozen BK245.out 0; have hfz86_1 := blk_frozen BK245.out 1; have hfz86_2 := blk_frozen BK245.out 2))
   refine bodyPost_ret (results_ct rfl _ _ gb245 39 #[.slice none 0 0, .slice none 0 0, .slice none 0 0] (0, 0) _ rfl Bc_10 Try.underlying39 rfl (by kernel_rfl)) rfl ?_
   exact ⟨_, _, _, by first | rfl | (simp [errW_none, errW_some] <;> rfl) | (simp [*, errW_none, errW_some] <;> rfl), by first | exact Kd.R_nil _ _ _ _ _ | exact Kd.N_nil _ _ _ _ _ | exact Kd.V_nil _ _ _ _ _ | exact Kd.Q_nil _ _ _ _ _ | exact Kd.S_nil _ _ _ _ _, by first | exact Kd.R_nil _ _ _ _ _ | exact Kd.N_nil _ _ _ _ _ | exact Kd.V_nil _ _ _ _ _ | exact Kd.Q_nil _ _ _ _ _ | exact Kd.S_nil _ _ _ _ _, by first | exact Kd.R_nil _ _ _ _ _ | exact Kd.N_nil _ _ _ _ _ | exact Kd.V_nil _ _ _ _ _ | exact Kd.Q_nil _ _ _ _ _ | exact Kd.S_nil _ _ _ _ _, by repeat (first | (with_reducible first | exact HB.out | apply below_alloc | apply pw_below_drewN | apply below_drew1 | refine below_set ?_ GE245.out) | exact HB.out)⟩
end Go.Proofs.Ytjmhhgnknjfnlaa.PFnExactReadLayout
