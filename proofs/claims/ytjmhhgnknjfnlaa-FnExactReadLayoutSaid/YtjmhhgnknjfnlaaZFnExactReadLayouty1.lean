-- functions and their walks: written by a program of this claim's
import Derived.Test.YtjmhhgnknjfnlaaProg
import Derived.Test.YtjmhhgnknjfnlaaVFnExactReadLayout
import Derived.Test.YtjmhhgnknjfnlaaZFnExactReadLayouty0
namespace Go.Proofs.Ytjmhhgnknjfnlaa.PFnExactReadLayout
open Go.RowKit Go.Proofs.YtjmhhgnknjfnlaaW.PrintWords Go.Proofs.YtjmhhgnknjfnlaaW.PrintLast Go.Proofs.YtjmhhgnknjfnlaaW.PrintMore
attribute [local go_sem] max2_int min2_int max_two min_two max_three min_three max_four min_four
set_option linter.unusedVariables false
set_option linter.unusedSimpArgs false
theorem Bb_0 {P : Prop} (h : P := by repeat (first | (with_reducible first | exact HB.out | apply below_alloc | apply pw_below_drewN | apply below_drew1 | refine below_set ?_ GE163.out) | exact HB.out)) : P := h
theorem Bb_1 {P : Prop} (h : P := by repeat (first | (with_reducible first | exact HB.out | apply below_alloc | apply pw_below_drewN | apply below_drew1 | refine below_set ?_ GE163.out | refine below_set ?_ GE179.out) | exact HB.out)) : P := h
theorem Bb_2 {P : Prop} (h : P := by (with_reducible repeat (first | refine blk_drewN ?_ _ | refine blk_drew ?_ | refine blk_alloc ?_ _)); exact BK163.out) : P := h
theorem Bb_3 {P : Prop} (h : P := by first | exact Kd.own_blk (Kd.R_ne HO166.out BK179.out (by decide)) | (rw [add_block]; exact Kd.own_blk (Kd.R_ne HO166.out BK179.out (by decide))) | (show (Addr.add _ _).block ≠ _; rw [add_block]; exact Kd.own_blk (Kd.R_ne HO166.out BK179.out (by decide))) | (dsimp only; exact Kd.own_blk (Kd.R_ne HO166.out BK179.out (by decide)))) : P := h
theorem Bb_4 {P : Prop} (h : P := by (try simp only [List.map_toArray, List.map_cons, List.map_nil]); first | done | rfl | (simp only [List.length_drop, List.length_take]; rfl)) : P := h
theorem Bb_5 {P : Prop} (h : P := by repeat (first | (with_reducible first | exact HB.out | apply below_alloc | apply pw_below_drewN | apply below_drew1) | exact HB.out)) : P := h
theorem Bb_6 {P : Prop} (h : P := by (with_reducible repeat (first | apply Kd.R_alloc | apply Kd.R_drewN | apply Kd.R_drew)); exact HO166.out) : P := h
theorem Bb_7 {P : Prop} (h : P := by (with_reducible repeat (first | apply Kd.R_alloc | apply Kd.R_drewN | apply Kd.R_drew)); exact HO170.out) : P := h
theorem Bb_8 {P : Prop} (h : P := by (with_reducible repeat (first | refine blk_drewN ?_ _ | refine blk_drew ?_ | refine blk_alloc ?_ _)); exact BK179.out) : P := h
theorem Bb_9 {P : Prop} (h : P := by (with_reducible repeat (first | apply Kd.R_alloc | apply Kd.R_drewN | apply Kd.R_drew)); exact HO174.out) : P := h
theorem Bb_10 {P : Prop} (h : P := by first | (with_reducible assumption) | assumption) : P := h
theorem Bb_11 {P : Prop} (h : P := by (with_reducible repeat (first | apply Kd.R_alloc | apply Kd.R_drewN | apply Kd.R_drew)); exact Kd.R_mono HO170.out (fun _ hk => ⟨hk.1.2, hk.2⟩)) : P := h
theorem Bb_12 {P : Prop} (h : P := by (with_reducible repeat (first | apply Kd.R_alloc | apply Kd.R_drewN | apply Kd.R_drew)); exact Kd.R_mono HO174.out (fun _ hk => ⟨hk.1.2, hk.2⟩)) : P := h
theorem Bb_13 {P : Prop} (h : P := by (with_reducible repeat (first | apply Kd.R_alloc | apply Kd.R_drewN | apply Kd.R_drew)); exact Kd.R_mono HO178.out (fun _ hk => ⟨hk.1.2, hk.2⟩)) : P := h
theorem Bb_14 {P : Prop} (h : P := by (with_reducible repeat (first | refine blk_drewN ?_ _ | refine blk_drew ?_ | refine blk_alloc ?_ _)); refine blk_put (cs := #[.slice none 0 0, .slice none 0 0, .slice none 0 0]) ?_ 2 _ rfl; (with_reducible repeat (first | refine blk_drewN ?_ _ | refine blk_drew ?_ | refine blk_alloc ?_ _)); refine blk_put (cs := #[.slice none 0 0, .slice none 0 0, .slice none 0 0]) ?_ 1 _ rfl; (with_reducible repeat (first | refine blk_drewN ?_ _ | refine blk_drew ?_ | refine blk_alloc ?_ _)); refine blk_put (cs := #[.slice none 0 0, .slice none 0 0, .slice none 0 0]) ?_ 0 _ rfl; (with_reducible repeat (first | refine blk_drewN ?_ _ | refine blk_drew ?_ | refine blk_alloc ?_ _)); exact BK163.out) : P := h
theorem Bb_15 {P : Prop} (h : P := by first | rfl | (simp; done) | (simp [*]; done)) : P := h
theorem Bb_16 {P : Prop} (h : P := by (with_reducible repeat (first | refine blk_drewN ?_ _ | refine blk_drew ?_ | refine blk_alloc ?_ _)); refine blk_far ?_ NB163_179.out _; (with_reducible repeat (first | refine blk_drewN ?_ _ | refine blk_drew ?_ | refine blk_alloc ?_ _)); refine blk_far ?_ NB163_179.out _; (with_reducible repeat (first | refine blk_drewN ?_ _ | refine blk_drew ?_ | refine blk_alloc ?_ _)); refine blk_far ?_ NB163_179.out _; (with_reducible repeat (first | refine blk_drewN ?_ _ | refine blk_drew ?_ | refine blk_alloc ?_ _)); exact BK163.out) : P := h
theorem Bb_17 {P : Prop} (h : P := by simp only [putAll, Act.put, List.setIfInBounds_toArray, List.set_cons_zero, List.set_cons_succ]) : P := h
theorem Bb_18 {P : Prop} (h : P := by (with_reducible repeat (first | apply Kd.R_alloc | apply Kd.R_drewN | apply Kd.R_drew)); exact HO_3.out) : P := h
theorem Bb_19 {P : Prop} (h : P := by (with_reducible repeat (first | apply Kd.R_alloc | apply Kd.R_drewN | apply Kd.R_drew)); exact (Kd.R_mono (Kd.R_far (p := ⟨gb179, 2, none⟩) (Kd.R_far (p := ⟨gb179, 1, none⟩) (Kd.R_far (p := ⟨gb179, 0, none⟩) (Kd.R_types HO170.out BK179.out (by decide)) (fun _ hk => hk.2) (.slice Ao27 t168.length co27)) (fun _ hk => hk.2) (.slice Ao26 t172.length co26)) (fun _ hk => hk.2) (.slice Ao25 t176.length co25)) (fun _ h_ => h_.1))) : P := h
theorem Bb_20 {P : Prop} (h : P := by (with_reducible repeat (first | apply Kd.R_alloc | apply Kd.R_drewN | apply Kd.R_drew)); exact (Kd.R_mono (Kd.R_far (p := ⟨gb179, 2, none⟩) (Kd.R_far (p := ⟨gb179, 1, none⟩) (Kd.R_far (p := ⟨gb179, 0, none⟩) (Kd.R_types HO174.out BK179.out (by decide)) (fun _ hk => hk.2) (.slice Ao27 t168.length co27)) (fun _ hk => hk.2) (.slice Ao26 t172.length co26)) (fun _ hk => hk.2) (.slice Ao25 t176.length co25)) (fun _ h_ => h_.1))) : P := h
theorem Bb_21 {P : Prop} (h : P := by (with_reducible repeat (first | apply Kd.R_alloc | apply Kd.R_drewN | apply Kd.R_drew)); exact (Kd.R_mono (Kd.R_far (p := ⟨gb179, 2, none⟩) (Kd.R_far (p := ⟨gb179, 1, none⟩) (Kd.R_far (p := ⟨gb179, 0, none⟩) (Kd.R_types HO178.out BK179.out (by decide)) (fun _ hk => hk.2) (.slice Ao27 t168.length co27)) (fun _ hk => hk.2) (.slice Ao26 t172.length co26)) (fun _ hk => hk.2) (.slice Ao25 t176.length co25)) (fun _ h_ => h_.1))) : P := h
theorem Bb_22 {P : Prop} (h : P := by (with_reducible repeat (first | apply Kd.R_alloc | apply Kd.R_drewN | apply Kd.R_drew)); exact (Kd.R_mono (Kd.R_far (p := ⟨gb179, 2, none⟩) (Kd.R_far (p := ⟨gb179, 1, none⟩) (Kd.R_far (p := ⟨gb179, 0, none⟩) (Kd.R_types HO170.out BK179.out (by decide)) (fun _ hk => hk.2) (.slice Ao50 t168.length co50)) (fun _ hk => hk.2) (.slice Ao49 t172.length co49)) (fun _ hk => hk.2) (.slice Ao48 t176.length co48)) (fun _ h_ => h_.1))) : P := h
theorem Bb_23 {P : Prop} (h : P := by (with_reducible repeat (first | apply Kd.R_alloc | apply Kd.R_drewN | apply Kd.R_drew)); exact (Kd.R_mono (Kd.R_far (p := ⟨gb179, 2, none⟩) (Kd.R_far (p := ⟨gb179, 1, none⟩) (Kd.R_far (p := ⟨gb179, 0, none⟩) (Kd.R_types HO174.out BK179.out (by decide)) (fun _ hk => hk.2) (.slice Ao50 t168.length co50)) (fun _ hk => hk.2) (.slice Ao49 t172.length co49)) (fun _ hk => hk.2) (.slice Ao48 t176.length co48)) (fun _ h_ => h_.1))) : P := h
theorem Bb_24 {P : Prop} (h : P := by (with_reducible repeat (first | apply Kd.R_alloc | apply Kd.R_drewN | apply Kd.R_drew)); exact (Kd.R_mono (Kd.R_far (p := ⟨gb179, 2, none⟩) (Kd.R_far (p := ⟨gb179, 1, none⟩) (Kd.R_far (p := ⟨gb179, 0, none⟩) (Kd.R_types HO178.out BK179.out (by decide)) (fun _ hk => hk.2) (.slice Ao50 t168.length co50)) (fun _ hk => hk.2) (.slice Ao49 t172.length co49)) (fun _ hk => hk.2) (.slice Ao48 t176.length co48)) (fun _ h_ => h_.1))) : P := h
theorem Bb_25 {P : Prop} (h : P := by (with_reducible repeat (first | apply Kd.R_alloc | apply Kd.R_drewN | apply Kd.R_drew)); exact (Kd.R_mono (Kd.R_far (p := ⟨gb179, 2, none⟩) (Kd.R_far (p := ⟨gb179, 1, none⟩) (Kd.R_far (p := ⟨gb179, 0, none⟩) (Kd.R_types HO170.out BK179.out (by decide)) (fun _ hk => hk.2) (.slice Ao72 t168.length co72)) (fun _ hk => hk.2) (.slice Ao71 t172.length co71)) (fun _ hk => hk.2) (.slice Ao70 t176.length co70)) (fun _ h_ => h_.1))) : P := h
theorem Bb_26 {P : Prop} (h : P := by (with_reducible repeat (first | apply Kd.R_alloc | apply Kd.R_drewN | apply Kd.R_drew)); exact (Kd.R_mono (Kd.R_far (p := ⟨gb179, 2, none⟩) (Kd.R_far (p := ⟨gb179, 1, none⟩) (Kd.R_far (p := ⟨gb179, 0, none⟩) (Kd.R_types HO174.out BK179.out (by decide)) (fun _ hk => hk.2) (.slice Ao72 t168.length co72)) (fun _ hk => hk.2) (.slice Ao71 t172.length co71)) (fun _ hk => hk.2) (.slice Ao70 t176.length co70)) (fun _ h_ => h_.1))) : P := h
theorem Bb_27 {P : Prop} (h : P := by (with_reducible repeat (first | apply Kd.R_alloc | apply Kd.R_drewN | apply Kd.R_drew)); exact (Kd.R_mono (Kd.R_far (p := ⟨gb179, 2, none⟩) (Kd.R_far (p := ⟨gb179, 1, none⟩) (Kd.R_far (p := ⟨gb179, 0, none⟩) (Kd.R_types HO178.out BK179.out (by decide)) (fun _ hk => hk.2) (.slice Ao72 t168.length co72)) (fun _ hk => hk.2) (.slice Ao71 t172.length co71)) (fun _ hk => hk.2) (.slice Ao70 t176.length co70)) (fun _ h_ => h_.1))) : P := h
theorem Bb_28 {P : Prop} (h : P := by repeat (first | (with_reducible first | exact HB.out | apply below_alloc | apply pw_below_drewN | apply below_drew1 | refine below_set ?_ GE218.out) | exact HB.out)) : P := h
theorem Bb_29 {P : Prop} (h : P := by (with_reducible repeat (first | apply Kd.R_alloc | apply Kd.R_drewN | apply Kd.R_drew)); exact HO_4.out) : P := h
theorem Bb_30 {P : Prop} (h : P := by (with_reducible repeat (first | apply Kd.R_alloc | apply Kd.R_drewN | apply Kd.R_drew)); exact HO178.out) : P := h
theorem Bb_31 {P : Prop} (h : P := by repeat (first | (with_reducible first | exact HB.out | apply below_alloc | apply pw_below_drewN | apply below_drew1 | refine below_set ?_ GE221.out) | exact HB.out)) : P := h
theorem Bb_32 {P : Prop} (h : P := by (with_reducible repeat (first | refine blk_drewN ?_ _ | refine blk_drew ?_ | refine blk_alloc ?_ _)); exact BK221.out) : P := h
theorem Bb_33 {P : Prop} (h : P := by (with_reducible repeat (first | apply Kd.R_alloc | apply Kd.R_drewN | apply Kd.R_drew)); exact HO_5.out) : P := h
def impl_ReadLayout.f (k : Nat) (a0 : ByteArray) : Option (List Int × List Int × List Int × Bool) := (impl_cut.f k a0 47).bind fun t164 => (if (t164.length : Int) = 3 then (if 0 < (t164.length : Int) then ((impl_uncommas.f k (rdOf ByteArray.empty t164 0)).bind fun t168 => (if 1 < (t164.length : Int) then ((impl_uncommas.f k (rdOf ByteArray.empty t164 1)).bind fun t172 => (if 2 < (t164.length : Int) then ((impl_uncommas.f k (rdOf ByteArray.empty t164 2)).bind fun t176 => ((impl_LayoutText.f k t168 t172 t176).bind fun bt180 => (if bt180.2 = true then (if bt180.1.toList = a0.toList then (some (t168, t172, t176, true)) else (some (([] : List Int), ([] : List Int), ([] : List Int), false))) else (some (([] : List Int), ([] : List Int), ([] : List Int), false))))) else (none))) else (none))) else (none)) else (some (([] : List Int), ([] : List Int), ([] : List Int), false)))
theorem impl_ReadLayout.mono : ∀ a0 k, LeO (impl_ReadLayout.f k a0) (impl_ReadLayout.f (k + 1) a0) := by
 intro a0 k
 unfold impl_ReadLayout.f
 repeat' first
   | (with_reducible exact impl_LayoutText.mono _ _ _ _)
   | (with_reducible exact impl_cut.mono _ _ _)
   | (with_reducible exact impl_uncommas.mono _ _)
   | (with_reducible exact LeO.refl _)
   | (with_reducible exact LeO.none _)
   | (with_reducible refine LeO.ite ?_ ?_)
   | (with_reducible refine LeO.bind ?_ (fun _ => ?_))
   | exact impl_LayoutText.mono _ _ _ _
   | exact impl_cut.mono _ _ _
   | exact impl_uncommas.mono _ _
   | exact LeO.none _
   | refine LeO.ite ?_ ?_
   | refine LeO.bind ?_ (fun _ => ?_)
def impl_ReadLayout.T4 : Bool × List (List Nat × List Nat) := (true, [([], []), ([0], [0]), ([1], [1]), ([2], [2]), ([], []), ([4], [4]), ([5], [5]), ([6, 3], [6]), ([], []), ([8], [8]), ([9], [9]), ([10, 7], [10]), ([3, 7, 11], [3, 7, 11]), ([], []), ([13, 12, 11, 0, 1, 2, 3, 4, 5, 6, 7, 8, 9, 10, 11, 12, 13], [12, 13])])
def impl_ReadLayout.B4 : List Nat := [0, 1, 3, 7, 0, 16, 48, 127, 0, 256, 768, 2047, 4095, 0, 16383]
theorem impl_ReadLayout.tab4 : rtab .any (opsOf Try.f24 4) = impl_ReadLayout.T4 := by kernel_rfl
theorem impl_ReadLayout.bits4 : waitsOk impl_ReadLayout.T4.2 impl_ReadLayout.B4 = true := by kernel_rfl
set_option maxHeartbeats 8000000 in
set_option maxRecDepth 100000 in
theorem impl_ReadLayout.calls (k : Nat) (a0 : ByteArray) (r1 : List Int) (r2 : List Int) (r3 : List Int) (r4 : Bool) (w : World) (h : impl_ReadLayout.f k a0 = some (r1, r2, r3, r4)) :
  Calls Try.prog 24 #[.string a0] w fun e w' => ∃ v0_ v1_ v2_ : Value, e = .returned (.tuple #[.agg #[v0_, v1_, v2_], .bool r4]) ∧ Kd.R (Kd.int .i64) 3 w' w.heap.size (fun k_ => some k_ ≠ (v1_ : Value).ownBlock ∧ some k_ ≠ (v2_ : Value).ownBlock) v0_ r1 ∧ Kd.R (Kd.int .i64) 3 w' w.heap.size (fun k_ => some k_ ≠ (v0_ : Value).ownBlock ∧ some k_ ≠ (v2_ : Value).ownBlock) v1_ r2 ∧ Kd.R (Kd.int .i64) 3 w' w.heap.size (fun k_ => some k_ ≠ (v0_ : Value).ownBlock ∧ some k_ ≠ (v1_ : Value).ownBlock) v2_ r3 ∧ Below w.heap.size w w' := by
 have hu39 := Try.underlying39
 have HB := Aside0.mk (Below.refl w.heap.size w)
 have H : ((impl_cut.f k a0 47).bind fun t164 => (if (t164.length : Int) = 3 then (if 0 < (t164.length : Int) then ((impl_uncommas.f k (rdOf ByteArray.empty t164 0)).bind fun t168 => (if 1 < (t164.length : Int) then ((impl_uncommas.f k (rdOf ByteArray.empty t164 1)).bind fun t172 => (if 2 < (t164.length : Int) then ((impl_uncommas.f k (rdOf ByteArray.empty t164 2)).bind fun t176 => ((impl_LayoutText.f k t168 t172 t176).bind fun bt180 => (if bt180.2 = true then (if bt180.1.toList = a0.toList then (some (t168, t172, t176, true)) else (some (([] : List Int), ([] : List Int), ([] : List Int), false))) else (some (([] : List Int), ([] : List Int), ([] : List Int), false))))) else (none))) else (none))) else (none)) else (some (([] : List Int), ([] : List Int), ([] : List Int), false)))) = some (r1, r2, r3, r4) := h
 clear h
 replace H := Option.bind_eq_some_iff.mp H
 obtain ⟨t164, A20, H⟩ := H
 replace H : (if (t164.length : Int) = 3 then (if 0 < (t164.length : Int) then ((impl_uncommas.f k (rdOf ByteArray.empty t164 0)).bind fun t168 => (if 1 < (t164.length : Int) then ((impl_uncommas.f k (rdOf ByteArray.empty t164 1)).bind fun t172 => (if 2 < (t164.length : Int) then ((impl_uncommas.f k (rdOf ByteArray.empty t164 2)).bind fun t176 => ((impl_LayoutText.f k t168 t172 t176).bind fun bt180 => (if bt180.2 = true then (if bt180.1.toList = a0.toList then (some (t168, t172, t176, true)) else (some (([] : List Int), ([] : List Int), ([] : List Int), false))) else (some (([] : List Int), ([] : List Int), ([] : List Int), false))))) else (none))) else (none))) else (none)) else (some (([] : List Int), ([] : List Int), ([] : List Int), false))) = some (r1, r2, r3, r4) := H
 have A2 := Aside0.mk A20
 clear A20
 by_cases c3 : (t164.length : Int) = 3
 ·rw [if_pos c3] at H
  have c3b0 : ((t164.length : Int) == 3) = true := beq_iff_eq.mpr c3
  have c3b1 : ((t164.length : Int) != 3) = false := bne_eq_false_iff_eq.mpr c3
  clear c3
  by_cases c4 : 0 < (t164.length : Int)
  ·rw [if_pos c4] at H
   have c4b0 : decide (0 < (t164.length : Int)) = true := decide_eq_true c4
   have c4b1 : decide (0 < t164.length) = true := decide_eq_true (by omega)
   clear c4
   replace H := Option.bind_eq_some_iff.mp H
   obtain ⟨t168, A50, H⟩ := H
   replace H : (if 1 < (t164.length : Int) then ((impl_uncommas.f k (rdOf ByteArray.empty t164 1)).bind fun t172 => (if 2 < (t164.length : Int) then ((impl_uncommas.f k (rdOf ByteArray.empty t164 2)).bind fun t176 => ((impl_LayoutText.f k t168 t172 t176).bind fun bt180 => (if bt180.2 = true then (if bt180.1.toList = a0.toList then (some (t168, t172, t176, true)) else (some (([] : List Int), ([] : List Int), ([] : List Int), false))) else (some (([] : List Int), ([] : List Int), ([] : List Int), false))))) else (none))) else (none)) = some (r1, r2, r3, r4) := H
   have A5 := Aside0.mk A50
   clear A50
   by_cases c6 : 1 < (t164.length : Int)
   ·rw [if_pos c6] at H
    have c6b0 : decide (1 < (t164.length : Int)) = true := decide_eq_true c6
    have c6b1 : decide (1 < t164.length) = true := decide_eq_true (by omega)
    clear c6
    replace H := Option.bind_eq_some_iff.mp H
    obtain ⟨t172, A70, H⟩ := H
    replace H : (if 2 < (t164.length : Int) then ((impl_uncommas.f k (rdOf ByteArray.empty t164 2)).bind fun t176 => ((impl_LayoutText.f k t168 t172 t176).bind fun bt180 => (if bt180.2 = true then (if bt180.1.toList = a0.toList then (some (t168, t172, t176, true)) else (some (([] : List Int), ([] : List Int), ([] : List Int), false))) else (some (([] : List Int), ([] : List Int), ([] : List Int), false))))) else (none)) = some (r1, r2, r3, r4) := H
    have A7 := Aside0.mk A70
    clear A70
    by_cases c8 : 2 < (t164.length : Int)
    ·rw [if_pos c8] at H
     have c8b0 : decide (2 < (t164.length : Int)) = true := decide_eq_true c8
     have c8b1 : decide (2 < t164.length) = true := decide_eq_true (by omega)
     clear c8
     replace H := Option.bind_eq_some_iff.mp H
     obtain ⟨t176, A90, H⟩ := H
     replace H : ((impl_LayoutText.f k t168 t172 t176).bind fun bt180 => (if bt180.2 = true then (if bt180.1.toList = a0.toList then (some (t168, t172, t176, true)) else (some (([] : List Int), ([] : List Int), ([] : List Int), false))) else (some (([] : List Int), ([] : List Int), ([] : List Int), false)))) = some (r1, r2, r3, r4) := H
     have A9 := Aside0.mk A90
     clear A90
     replace H := Option.bind_eq_some_iff.mp H
     obtain ⟨⟨t180, t181⟩, A100, H⟩ := H
     replace H : (if t181 = true then (if t180.toList = a0.toList then (some (t168, t172, t176, true)) else (some (([] : List Int), ([] : List Int), ([] : List Int), false))) else (some (([] : List Int), ([] : List Int), ([] : List Int), false))) = some (r1, r2, r3, r4) := H
     have A10 := Aside0.mk A100
     clear A100
     by_cases c11 : t181 = true
     ·subst c11
      have H1 : (if t180.toList = a0.toList then (some (t168, t172, t176, true)) else (some (([] : List Int), ([] : List Int), ([] : List Int), false))) = some (r1, r2, r3, r4) := by rw [if_pos rfl] at H; exact H
      clear H
      have H := H1
      clear H1
      by_cases c12 : t180.toList = a0.toList
      ·rw [if_pos c12] at H
       have c12b0 : (t180.toList == a0.toList) = true := beq_iff_eq.mpr c12
       have c12b1 : (t180.toList != a0.toList) = false := bne_eq_false_iff_eq.mpr c12
       clear c12
       simp only [Option.some.injEq, Prod.mk.injEq] at H
       obtain ⟨rfl, rfl, rfl, rfl⟩ := H
       go_enter Try.func24, Try.ntmps24
       try go_wp2_with (first | ((with_reducible refine gate_dst (N := 2) rfl ?_); refine box_event ?hg (N := 2) ?hd (cs := #[.slice none 0 0, .slice none 0 0, .slice none 0 0]) (t := 39) ?hr ?_; (case hd => rfl); (case hg => rfl); (case hr => first | (go_simp; done) | (go_simp; rfl)); intro gb163 hg w13 hbox hb; have n0_ := Aside0.mk (below_step Bb_5 hb); have n1_ := Aside0.mk (hbox); have n2_ := Aside0.mk ((by rw [hg]; exact (below_size Bb_5) : w.heap.size ≤ gb163)); have n3_ := Aside0.mk ((by rw [hg]; exact (below_size Bb_5) : w.heap.size ≤ gb163)); clear HB; have HB := n0_; have BK163 := n1_; have GW163 := n2_; have GE163 := n3_; clear n0_ n1_ n2_ n3_; clear hb hbox hg) | ((with_reducible refine gate_callee (f := 75) rfl ?_); refine goesL_ (some 9) rfl rfl Try.func75 (by kernel_rfl) rfl #[.string a0, .int .u8 47] rfl Bb_4 ?_; (with_reducible refine (impl_cut.calls k a0 47 t164 _ A2.out).mono ?_); rintro e w14 ⟨v165, rfl, ho0, hb⟩; refine ⟨_, rfl, ?_⟩; have n0_ := Aside0.mk (Kd.R_lower ho0 (below_size Bb_0)); have n1_ := Aside0.mk (blk_below (g := gb163) (o := .cells #[.slice none 0 0, .slice none 0 0, .slice none 0 0] 39 (0, 0)) Bb_2 hb); have n2_ := Aside0.mk (below_step Bb_0 hb); clear BK163; clear HB; have HO166 := n0_; have BK163 := n1_; have HB := n2_; clear n0_ n1_ n2_; (try clear hb); (try clear hb2); (try clear hk); (try clear hi); (try clear ho0); obtain ⟨Ao15, co15, eo15⟩ := Kd.R_slice HO166.out; subst eo15))
       have n0_ := Aside0.mk (Kd.R_drew HO166.out)
       have n1_ := Aside0.mk (blk_drew BK163.out)
       have n2_ := Aside0.mk (below_drew1 HB.out)
       clear HO166
       clear BK163
       clear HB
       have HO166 := n0_
       have BK163 := n1_
       have HB := n2_
       clear n0_ n1_ n2_
       have p167 : 0 ≤ (0 : Int) := (by omega)
       have q167 : 0 < (t164.length : Int) := of_decide_eq_true Bb_10
       obtain ⟨ad167, e167, hx167_0⟩ := Kd.at_string (Kd.R_reads' HO166.out).2.2 0 p167 q167
       cases e167
       have qi167 : (0 < t164.length) = True := eq_true (by omega)
       (try rw [show ((0 : Int)).toNat = 0 from rfl] at hx167_0)
       (try rw [Addr.add_zero'] at hx167_0)
       replace p167 := eq_true p167
       replace q167 := eq_true q167
       have p171 : 0 ≤ (1 : Int) := (by omega)
       have q171 : 1 < (t164.length : Int) := of_decide_eq_true Bb_10
       obtain ⟨ad171, e171, hx171_0⟩ := Kd.at_string (Kd.R_reads' HO166.out).2.2 1 p171 q171
       obtain rfl : ad167 = ad171 := (by injection e171)
       (try simp only [show (1 : Int).toNat = 1 from rfl, Nat.reduceMul, Nat.reduceEqDiff, Go.Addr.add, ↓reduceIte] at hx171_0)
       have qi171 : (1 < t164.length) = True := eq_true (by omega)
       (try rw [show ((1 : Int)).toNat = 1 from rfl] at hx171_0)
       replace p171 := eq_true p171
       replace q171 := eq_true q171
       have p175 : 0 ≤ (2 : Int) := (by omega)
       have q175 : 2 < (t164.length : Int) := of_decide_eq_true Bb_10
       obtain ⟨ad175, e175, hx175_0⟩ := Kd.at_string (Kd.R_reads' HO166.out).2.2 2 p175 q175
       obtain rfl : ad167 = ad175 := (by injection e175)
       (try simp only [show (2 : Int).toNat = 2 from rfl, Nat.reduceMul, Nat.reduceEqDiff, Go.Addr.add, ↓reduceIte] at hx175_0)
       have qi175 : (2 < t164.length) = True := eq_true (by omega)
       (try rw [show ((2 : Int)).toNat = 2 from rfl] at hx175_0)
       replace p175 := eq_true p175
       replace q175 := eq_true q175
       refine start_ (n := 15) (S := fun w' => w'.cell? ad167 = some (.string (rdOf ByteArray.empty t164 0)) ∧ w'.cell? ⟨ad167.block, ad167.off + 1, none⟩ = some (.string (rdOf ByteArray.empty t164 1)) ∧ w'.cell? ⟨ad167.block, ad167.off + 2, none⟩ = some (.string (rdOf ByteArray.empty t164 2))) (ds := []) #[false, false, false, false, false, false, false, false, false, false, false, false, false, false, false] (by kernel_rfl) rfl rfl ⟨hx167_0, hx171_0, hx175_0⟩ (fun hHeld => ?_); refine with_tabW impl_ReadLayout.tab4 impl_ReadLayout.bits4 (fun HT_ HW_ => ?_)
       generalize w14.drew = w16 at HO166 BK163 HB hx167_0 hx171_0 hx175_0 hHeld ⊢
       refine pure_ (i := 0) (N := some 14) (v := ?_) (a' := ?_) #[true, false, false, false, false, false, false, false, false, false, false, false, false, false, false] rfl rfl (any_of HT_.out (by kernel_rfl)) (fun _ _ _ h => h) (Or.inl ⟨by rfl, ?_⟩) ?_ ?_
       rotate_left
       ·intro w'
        go_simp
        with_reducible rfl
       rotate_left
       ·simp only [Act.put, List.setIfInBounds_toArray, List.set_cons_zero, List.set_cons_succ, i64_w, i32_w]
        rfl
       refine pure_ (i := 1) (N := some 15) (v := ?_) (a' := ?_) #[true, true, false, false, false, false, false, false, false, false, false, false, false, false, false] rfl rfl (any_of HT_.out (by kernel_rfl)) (fun _ _ _ h => h) (Or.inl ⟨by rfl, ?_⟩) ?_ ?_
       rotate_left
       ·intro w'
        go_simp
        with_reducible rfl
       rotate_left
       ·simp only [Act.put, List.setIfInBounds_toArray, List.set_cons_zero, List.set_cons_succ, i64_w, i32_w]
        rfl
       refine pure_ (i := 4) (N := some 18) (v := ?_) (a' := ?_) #[true, true, false, false, true, false, false, false, false, false, false, false, false, false, false] rfl rfl (any_of HT_.out (by kernel_rfl)) (fun _ _ _ h => h) (Or.inl ⟨by rfl, ?_⟩) ?_ ?_
       rotate_left
       ·intro w'
        go_simp
        with_reducible rfl
       rotate_left
       ·simp only [Act.put, List.setIfInBounds_toArray, List.set_cons_zero, List.set_cons_succ, i64_w, i32_w]
        rfl
       refine pure_ (i := 5) (N := some 19) (v := ?_) (a' := ?_) #[true, true, false, false, true, true, false, false, false, false, false, false, false, false, false] rfl rfl (any_of HT_.out (by kernel_rfl)) (fun _ _ _ h => h) (Or.inl ⟨by rfl, ?_⟩) ?_ ?_
       rotate_left
       ·intro w'
        go_simp
        with_reducible rfl
       rotate_left
       ·simp only [Act.put, List.setIfInBounds_toArray, List.set_cons_zero, List.set_cons_succ, i64_w, i32_w]
        rfl
       refine pure_ (i := 8) (N := some 22) (v := ?_) (a' := ?_) #[true, true, false, false, true, true, false, false, true, false, false, false, false, false, false] rfl rfl (any_of HT_.out (by kernel_rfl)) (fun _ _ _ h => h) (Or.inl ⟨by rfl, ?_⟩) ?_ ?_
       rotate_left
       ·intro w'
        go_simp
        with_reducible rfl
       rotate_left
       ·simp only [Act.put, List.setIfInBounds_toArray, List.set_cons_zero, List.set_cons_succ, i64_w, i32_w]
        rfl
       refine pure_ (i := 9) (N := some 23) (v := ?_) (a' := ?_) #[true, true, false, false, true, true, false, false, true, true, false, false, false, false, false] rfl rfl (any_of HT_.out (by kernel_rfl)) (fun _ _ _ h => h) (Or.inl ⟨by rfl, ?_⟩) ?_ ?_
       rotate_left
       ·intro w'
        go_simp
        with_reducible rfl
       rotate_left
       ·simp only [Act.put, List.setIfInBounds_toArray, List.set_cons_zero, List.set_cons_succ, i64_w, i32_w]
        rfl
       refine take_ (i := 2) (N := some 16) (v := ?_) (a' := ?_) #[true, true, true, false, true, true, false, false, true, true, false, false, false, false, false] rfl rfl (take_ofW HT_.out HW_.out (by kernel_rfl)) (fun _ _ _ h => h) (Or.inl ⟨by rfl, ?_⟩) hHeld ?_ ?_
       rotate_left
       ·rintro w' ⟨s0, s1, s2⟩
        go_simp
        with_reducible rfl
       rotate_left
       ·simp only [Act.put, List.setIfInBounds_toArray, List.set_cons_zero, List.set_cons_succ, i64_w, i32_w]
        rfl
       refine take_ (i := 6) (N := some 20) (v := ?_) (a' := ?_) #[true, true, true, false, true, true, true, false, true, true, false, false, false, false, false] rfl rfl (take_ofW HT_.out HW_.out (by kernel_rfl)) (fun _ _ _ h => h) (Or.inl ⟨by rfl, ?_⟩) hHeld ?_ ?_
       rotate_left
       ·rintro w' ⟨s0, s1, s2⟩
        go_simp
        with_reducible rfl
       rotate_left
       ·simp only [Act.put, List.setIfInBounds_toArray, List.set_cons_zero, List.set_cons_succ, i64_w, i32_w]
        rfl
       refine take_ (i := 10) (N := some 24) (v := ?_) (a' := ?_) #[true, true, true, false, true, true, true, false, true, true, true, false, false, false, false] rfl rfl (take_ofW HT_.out HW_.out (by kernel_rfl)) (fun _ _ _ h => h) (Or.inl ⟨by rfl, ?_⟩) hHeld ?_ ?_
       rotate_left
       ·rintro w' ⟨s0, s1, s2⟩
        go_simp
        with_reducible rfl
       rotate_left
       ·simp only [Act.put, List.setIfInBounds_toArray, List.set_cons_zero, List.set_cons_succ, i64_w, i32_w]
        rfl
       refine join_ (σ := Value × Value × Value × Nat) 1 #[true, true, true, true, true, true, true, true, true, true, true, true, true, true, false] (fun s_ => [(17, s_.1), (21, s_.2.1), (25, s_.2.2.1), (5, .pointer (some ⟨s_.2.2.2, 0, none⟩)), (26, .agg #[s_.1, s_.2.1, s_.2.2.1])]) (fun s_ w' => (w'.cell? ad167 = some (.string (rdOf ByteArray.empty t164 0)) ∧ w'.cell? ⟨ad167.block, ad167.off + 1, none⟩ = some (.string (rdOf ByteArray.empty t164 1)) ∧ w'.cell? ⟨ad167.block, ad167.off + 2, none⟩ = some (.string (rdOf ByteArray.empty t164 2))) ∧ (Kd.R Kd.string 9 w' w.heap.size (fun _ => True) (.slice (some ad167) t164.length co15) t164) ∧ (Kd.R (Kd.int .i64) 3 w' w.heap.size (fun k_ => some k_ ≠ (s_.2.1 : Value).ownBlock ∧ some k_ ≠ (s_.2.2.1 : Value).ownBlock) s_.1 t168) ∧ (Kd.R (Kd.int .i64) 3 w' w.heap.size (fun k_ => some k_ ≠ (s_.1 : Value).ownBlock ∧ some k_ ≠ (s_.2.2.1 : Value).ownBlock) s_.2.1 t172) ∧ (Kd.R (Kd.int .i64) 3 w' w.heap.size (fun k_ => some k_ ≠ (s_.1 : Value).ownBlock ∧ some k_ ≠ (s_.2.1 : Value).ownBlock) s_.2.2.1 t176) ∧ (w'.heap[gb163]? = some (.cells #[.slice none 0 0, .slice none 0 0, .slice none 0 0] 39 (0, 0))) ∧ (w'.heap[s_.2.2.2]? = some (.cells #[.slice none 0 0, .slice none 0 0, .slice none 0 0] 39 (0, 0))) ∧ (w.heap.size ≤ s_.2.2.2) ∧ (w.heap.size ≤ s_.2.2.2) ∧ (gb163 ≠ s_.2.2.2) ∧ (s_.2.2.2 ≠ gb163) ∧ (Below w.heap.size w w')) ?_ ?_
       rotate_left
       ·intro hCont
        refine two_ (i := 3) (j := 13) (Ni := some 17) (Nj := some 5) #[true, true, true, true, true, true, true, false, true, true, true, false, false, false, false] #[true, true, true, false, true, true, true, false, true, true, true, false, false, true, false] rfl rfl rfl rfl (two_of HT_.out (by kernel_rfl)) (by decide) (by decide) (fun K hK => ?_) (fun K hK => ?_)
        ·skip
         refine goes_ Try.func82 (by kernel_rfl) rfl #[.string (rdOf ByteArray.empty t164 0)] (by rfl) rfl rfl Bb_4 ?_
         with_reducible refine (impl_uncommas.calls k (rdOf ByteArray.empty t164 0) t168 _ A5.out).mono ?_
         rintro e w17 ⟨v169, rfl, ho0, hb⟩
         have HS0_ := (hb.cell (World.block_lt_of_cell? _ _ (hHeld.1))).trans (hHeld.1)
         have HS1_ := (hb.cell (World.block_lt_of_cell? _ _ (hHeld.2.1))).trans (hHeld.2.1)
         have HS2_ := (hb.cell (World.block_lt_of_cell? _ _ (hHeld.2.2))).trans (hHeld.2.2)
         refine ⟨_, rfl, ?_⟩
         have n0_ := Aside0.mk (Kd.R_below Bb_6 hb)
         have n1_ := Aside0.mk (Kd.R_lower ho0 (below_size Bb_0))
         have n2_ := Aside0.mk (blk_below (g := gb163) (o := .cells #[.slice none 0 0, .slice none 0 0, .slice none 0 0] 39 (0, 0)) Bb_2 hb)
         have n3_ := Aside0.mk (below_step Bb_0 hb)
         clear HO166
         clear BK163
         clear HB
         have HO166 := n0_
         have HO170 := n1_
         have BK163 := n2_
         have HB := n3_
         clear n0_ n1_ n2_ n3_
         (try clear hb)
         (try clear hb2)
         (try clear hk)
         (try clear hi)
         (try clear ho0)
         refine hK.out _ _ ⟨HS0_, HS1_, HS2_⟩ (fun hHeld => ?_)
         clear hK K
         refine norm_ (a' := ?_) ?_ ?_
         rotate_left
         ·show Act.put _ (some 17) _ = _
          simp only [Act.put, List.setIfInBounds_toArray, List.set_cons_zero, List.set_cons_succ, i64_w, i32_w]
          rfl
         refine two_ (i := 7) (j := 13) (Ni := some 21) (Nj := some 5) #[true, true, true, true, true, true, true, true, true, true, true, false, false, false, false] #[true, true, true, true, true, true, true, false, true, true, true, false, false, true, false] rfl rfl rfl rfl (two_of HT_.out (by kernel_rfl)) (by decide) (by decide) (fun K hK => ?_) (fun K hK => ?_)
         ·skip
          refine goes_ Try.func82 (by kernel_rfl) rfl #[.string (rdOf ByteArray.empty t164 1)] (by rfl) rfl rfl Bb_4 ?_
          with_reducible refine (impl_uncommas.calls k (rdOf ByteArray.empty t164 1) t172 _ A7.out).mono ?_
          rintro e w18 ⟨v173, rfl, ho0, hb⟩
          have HS0_ := (hb.cell (World.block_lt_of_cell? _ _ (hHeld.1))).trans (hHeld.1)
          have HS1_ := (hb.cell (World.block_lt_of_cell? _ _ (hHeld.2.1))).trans (hHeld.2.1)
          have HS2_ := (hb.cell (World.block_lt_of_cell? _ _ (hHeld.2.2))).trans (hHeld.2.2)
          refine ⟨_, rfl, ?_⟩
          have n0_ := Aside0.mk (Kd.R_below Bb_6 hb)
          have n1_ := Aside0.mk (Kd.R_elder' Bb_7 (Kd.R_base ho0) hb)
          have n2_ := Aside0.mk (Kd.R_lower (Kd.R_new' ho0 (Kd.R_lt Bb_7)) (below_size Bb_0))
          have n3_ := Aside0.mk (blk_below (g := gb163) (o := .cells #[.slice none 0 0, .slice none 0 0, .slice none 0 0] 39 (0, 0)) Bb_2 hb)
          have n4_ := Aside0.mk (below_step Bb_0 hb)
          clear HO166
          clear HO170
          clear BK163
          clear HB
          have HO166 := n0_
          have HO170 := n1_
          have HO174 := n2_
          have BK163 := n3_
          have HB := n4_
          clear n0_ n1_ n2_ n3_ n4_
          (try clear hb)
          (try clear hb2)
          (try clear hk)
          (try clear hi)
          (try clear ho0)
          refine hK.out _ _ ⟨HS0_, HS1_, HS2_⟩ (fun hHeld => ?_)
          clear hK K
          refine norm_ (a' := ?_) ?_ ?_
          rotate_left
          ·show Act.put _ (some 21) _ = _
           simp only [Act.put, List.setIfInBounds_toArray, List.set_cons_zero, List.set_cons_succ, i64_w, i32_w]
           rfl
          refine two_ (i := 11) (j := 13) (Ni := some 25) (Nj := some 5) #[true, true, true, true, true, true, true, true, true, true, true, true, false, false, false] #[true, true, true, true, true, true, true, true, true, true, true, false, false, true, false] rfl rfl rfl rfl (two_of HT_.out (by kernel_rfl)) (by decide) (by decide) (fun K hK => ?_) (fun K hK => ?_)
          ·skip
           refine goes_ Try.func82 (by kernel_rfl) rfl #[.string (rdOf ByteArray.empty t164 2)] (by rfl) rfl rfl Bb_4 ?_
           with_reducible refine (impl_uncommas.calls k (rdOf ByteArray.empty t164 2) t176 _ A9.out).mono ?_
           rintro e w19 ⟨v177, rfl, ho0, hb⟩
           have HS0_ := (hb.cell (World.block_lt_of_cell? _ _ (hHeld.1))).trans (hHeld.1)
           have HS1_ := (hb.cell (World.block_lt_of_cell? _ _ (hHeld.2.1))).trans (hHeld.2.1)
           have HS2_ := (hb.cell (World.block_lt_of_cell? _ _ (hHeld.2.2))).trans (hHeld.2.2)
           refine ⟨_, rfl, ?_⟩
           have n0_ := Aside0.mk (Kd.R_below Bb_6 hb)
           have n1_ := Aside0.mk (Kd.R_elder' Bb_7 (Kd.R_base ho0) hb)
           have n2_ := Aside0.mk (Kd.R_elder' Bb_9 (Kd.R_base ho0) hb)
           have n3_ := Aside0.mk (Kd.R_lower (Kd.R_new' (Kd.R_new' ho0 (Kd.R_lt Bb_7)) (Kd.R_lt Bb_9)) (below_size Bb_0))
           have n4_ := Aside0.mk (blk_below (g := gb163) (o := .cells #[.slice none 0 0, .slice none 0 0, .slice none 0 0] 39 (0, 0)) Bb_2 hb)
           have n5_ := Aside0.mk (below_step Bb_0 hb)
           clear HO166
           clear HO170
           clear HO174
           clear BK163
           clear HB
           have HO166 := n0_
           have HO170 := n1_
           have HO174 := n2_
           have HO178 := n3_
           have BK163 := n4_
           have HB := n5_
           clear n0_ n1_ n2_ n3_ n4_ n5_
           (try clear hb)
           (try clear hb2)
           (try clear hk)
           (try clear hi)
           (try clear ho0)
           obtain ⟨Ao20, co20, eo20⟩ := Kd.R_slice HO178.out
           (first | subst eo20 | (injection eo20 with f1_ f2_ f3_; have f4_ := f1_.symm; have f5_ := f3_.symm; clear f1_ f2_ f3_; subst f4_; subst f5_))
           obtain ⟨Ao21, co21, eo21⟩ := Kd.R_slice HO174.out
           (first | subst eo21 | (injection eo21 with f1_ f2_ f3_; have f4_ := f1_.symm; have f5_ := f3_.symm; clear f1_ f2_ f3_; subst f4_; subst f5_))
           obtain ⟨Ao22, co22, eo22⟩ := Kd.R_slice HO170.out
           (first | subst eo22 | (injection eo22 with f1_ f2_ f3_; have f4_ := f1_.symm; have f5_ := f3_.symm; clear f1_ f2_ f3_; subst f4_; subst f5_))
           refine hK.out _ _ ⟨HS0_, HS1_, HS2_⟩ (fun hHeld => ?_)
           clear hK K
           refine norm_ (a' := ?_) ?_ ?_
           rotate_left
           ·show Act.put _ (some 25) _ = _
            simp only [Act.put, List.setIfInBounds_toArray, List.set_cons_zero, List.set_cons_succ, i64_w, i32_w]
            rfl
           refine pure_ (i := 12) (N := some 26) (v := ?_) (a' := ?_) #[true, true, true, true, true, true, true, true, true, true, true, true, true, false, false] rfl rfl (any_of HT_.out (by kernel_rfl)) (fun _ _ _ h => h) (Or.inl ⟨by rfl, ?_⟩) ?_ ?_
           rotate_left
           ·intro w'
            go_simp
            with_reducible rfl
           rotate_left
           ·simp only [Act.put, List.setIfInBounds_toArray, List.set_cons_zero, List.set_cons_succ, i64_w, i32_w]
            rfl
           refine one_ (i := 13) (N := some 5) #[true, true, true, true, true, true, true, true, true, true, true, true, true, true, false] rfl rfl (one_of HT_.out (by kernel_rfl)) (by decide) (fun K hK => ?_)
           refine box_step ?hg (N := 5) ?hd (cs := #[.slice none 0 0, .slice none 0 0, .slice none 0 0]) (t := 39) ?hr ?_; (case hd => rfl); (case hg => rfl); (case hr => first | (go_simp; done) | (go_simp; rfl))
           intro gb179 hg w23 hbox hb
           have HS0_ := (hb.cell (World.block_lt_of_cell? _ _ (hHeld.1))).trans (hHeld.1)
           have HS1_ := (hb.cell (World.block_lt_of_cell? _ _ (hHeld.2.1))).trans (hHeld.2.1)
           have HS2_ := (hb.cell (World.block_lt_of_cell? _ _ (hHeld.2.2))).trans (hHeld.2.2)
           have n0_ := Aside0.mk (Kd.R_below Bb_6 hb)
           have n1_ := Aside0.mk (Kd.R_below Bb_7 hb)
           have n2_ := Aside0.mk (Kd.R_below Bb_9 hb)
           have n3_ := Aside0.mk (Kd.R_below Bb_30 hb)
           have n4_ := Aside0.mk (blk_below (g := gb163) (o := .cells #[.slice none 0 0, .slice none 0 0, .slice none 0 0] 39 (0, 0)) Bb_2 hb)
           have n5_ := Aside0.mk (below_step Bb_0 hb)
           have n6_ := Aside0.mk (hbox)
           have n7_ := Aside0.mk ((by rw [hg]; exact (below_size Bb_0) : w.heap.size ≤ gb179))
           have n8_ := Aside0.mk ((by rw [hg]; exact (below_size Bb_0) : w.heap.size ≤ gb179))
           have n9_ := Aside0.mk ((by rw [hg]; exact Nat.ne_of_lt (blk_lt (g := gb163) (o := .cells #[.slice none 0 0, .slice none 0 0, .slice none 0 0] 39 (0, 0)) Bb_2) : gb163 ≠ gb179))
           have n10_ := Aside0.mk ((by rw [hg]; exact Nat.ne_of_gt (blk_lt (g := gb163) (o := .cells #[.slice none 0 0, .slice none 0 0, .slice none 0 0] 39 (0, 0)) Bb_2) : gb179 ≠ gb163))
           clear HO166
           clear HO170
           clear HO174
           clear HO178
           clear BK163
           clear HB
           have HO166 := n0_
           have HO170 := n1_
           have HO174 := n2_
           have HO178 := n3_
           have BK163 := n4_
           have HB := n5_
           have BK179 := n6_
           have GW179 := n7_
           have GE179 := n8_
           have NB163_179 := n9_
           have NB179_163 := n10_
           clear n0_ n1_ n2_ n3_ n4_ n5_ n6_ n7_ n8_ n9_ n10_
           clear hb hbox hg
           refine hK.out _ _ ⟨HS0_, HS1_, HS2_⟩ (fun hHeld => ?_)
           clear hK K
           refine norm_ (a' := ?_) ?_ ?_
           rotate_left
           ·show Act.put _ (some 5) _ = _
            simp only [Act.put, List.setIfInBounds_toArray, List.set_cons_zero, List.set_cons_succ, i64_w, i32_w]
            rfl
           exact norm_ Bb_17 (hCont (.slice Ao22 t168.length co22, .slice Ao21 t172.length co21, .slice Ao20 t176.length co20, gb179) _ ⟨hHeld, Bb_6, Bb_11, Bb_12, Bb_13, Bb_2, Bb_8, GW179.out, GE179.out, NB163_179.out, NB179_163.out, Bb_1⟩)
          ·skip
           refine box_step ?hg (N := 5) ?hd (cs := #[.slice none 0 0, .slice none 0 0, .slice none 0 0]) (t := 39) ?hr ?_; (case hd => rfl); (case hg => rfl); (case hr => first | (go_simp; done) | (go_simp; rfl))
           intro gb179 hg w19 hbox hb
           have HS0_ := (hb.cell (World.block_lt_of_cell? _ _ (hHeld.1))).trans (hHeld.1)
           have HS1_ := (hb.cell (World.block_lt_of_cell? _ _ (hHeld.2.1))).trans (hHeld.2.1)
           have HS2_ := (hb.cell (World.block_lt_of_cell? _ _ (hHeld.2.2))).trans (hHeld.2.2)
           have n0_ := Aside0.mk (Kd.R_below Bb_6 hb)
           have n1_ := Aside0.mk (Kd.R_below Bb_7 hb)
           have n2_ := Aside0.mk (Kd.R_below Bb_9 hb)
           have n3_ := Aside0.mk (blk_below (g := gb163) (o := .cells #[.slice none 0 0, .slice none 0 0, .slice none 0 0] 39 (0, 0)) Bb_2 hb)
           have n4_ := Aside0.mk (below_step Bb_0 hb)
           have n5_ := Aside0.mk (hbox)
           have n6_ := Aside0.mk ((by rw [hg]; exact (below_size Bb_0) : w.heap.size ≤ gb179))
           have n7_ := Aside0.mk ((by rw [hg]; exact (below_size Bb_0) : w.heap.size ≤ gb179))
           have n8_ := Aside0.mk ((by rw [hg]; exact Nat.ne_of_lt (blk_lt (g := gb163) (o := .cells #[.slice none 0 0, .slice none 0 0, .slice none 0 0] 39 (0, 0)) Bb_2) : gb163 ≠ gb179))
           have n9_ := Aside0.mk ((by rw [hg]; exact Nat.ne_of_gt (blk_lt (g := gb163) (o := .cells #[.slice none 0 0, .slice none 0 0, .slice none 0 0] 39 (0, 0)) Bb_2) : gb179 ≠ gb163))
           clear HO166
           clear HO170
           clear HO174
           clear BK163
           clear HB
           have HO166 := n0_
           have HO170 := n1_
           have HO174 := n2_
           have BK163 := n3_
           have HB := n4_
           have BK179 := n5_
           have GW179 := n6_
           have GE179 := n7_
           have NB163_179 := n8_
           have NB179_163 := n9_
           clear n0_ n1_ n2_ n3_ n4_ n5_ n6_ n7_ n8_ n9_
           clear hb hbox hg
           refine hK.out _ _ ⟨HS0_, HS1_, HS2_⟩ (fun hHeld => ?_)
           clear hK K
           refine norm_ (a' := ?_) ?_ ?_
           rotate_left
           ·show Act.put _ (some 5) _ = _
            simp only [Act.put, List.setIfInBounds_toArray, List.set_cons_zero, List.set_cons_succ, i64_w, i32_w]
            rfl
           refine one_ (i := 11) (N := some 25) #[true, true, true, true, true, true, true, true, true, true, true, true, false, true, false] rfl rfl (one_of HT_.out (by kernel_rfl)) (by decide) (fun K hK => ?_)
           refine goes_ Try.func82 (by kernel_rfl) rfl #[.string (rdOf ByteArray.empty t164 2)] (by rfl) rfl rfl Bb_4 ?_
           with_reducible refine (impl_uncommas.calls k (rdOf ByteArray.empty t164 2) t176 _ A9.out).mono ?_
           rintro e w20 ⟨v177, rfl, ho0, hb⟩
           have HS0_ := (hb.cell (World.block_lt_of_cell? _ _ (hHeld.1))).trans (hHeld.1)
           have HS1_ := (hb.cell (World.block_lt_of_cell? _ _ (hHeld.2.1))).trans (hHeld.2.1)
           have HS2_ := (hb.cell (World.block_lt_of_cell? _ _ (hHeld.2.2))).trans (hHeld.2.2)
           refine ⟨_, rfl, ?_⟩
           have n0_ := Aside0.mk (Kd.R_below Bb_6 hb)
           have n1_ := Aside0.mk (Kd.R_elder' Bb_7 (Kd.R_base ho0) hb)
           have n2_ := Aside0.mk (Kd.R_elder' Bb_9 (Kd.R_base ho0) hb)
           have n3_ := Aside0.mk (Kd.R_lower (Kd.R_new' (Kd.R_new' ho0 (Kd.R_lt Bb_7)) (Kd.R_lt Bb_9)) (below_size Bb_1))
           have n4_ := Aside0.mk (blk_below (g := gb163) (o := .cells #[.slice none 0 0, .slice none 0 0, .slice none 0 0] 39 (0, 0)) Bb_2 hb)
           have n5_ := Aside0.mk (blk_below (g := gb179) (o := .cells #[.slice none 0 0, .slice none 0 0, .slice none 0 0] 39 (0, 0)) Bb_8 hb)
           have n6_ := Aside0.mk (below_step Bb_1 hb)
           clear HO166
           clear HO170
           clear HO174
           clear BK163
           clear BK179
           clear HB
           have HO166 := n0_
           have HO170 := n1_
           have HO174 := n2_
           have HO178 := n3_
           have BK163 := n4_
           have BK179 := n5_
           have HB := n6_
           clear n0_ n1_ n2_ n3_ n4_ n5_ n6_
           (try clear hb)
           (try clear hb2)
           (try clear hk)
           (try clear hi)
           (try clear ho0)
           obtain ⟨Ao21, co21, eo21⟩ := Kd.R_slice HO178.out
           (first | subst eo21 | (injection eo21 with f1_ f2_ f3_; have f4_ := f1_.symm; have f5_ := f3_.symm; clear f1_ f2_ f3_; subst f4_; subst f5_))
           obtain ⟨Ao22, co22, eo22⟩ := Kd.R_slice HO174.out
           (first | subst eo22 | (injection eo22 with f1_ f2_ f3_; have f4_ := f1_.symm; have f5_ := f3_.symm; clear f1_ f2_ f3_; subst f4_; subst f5_))
           obtain ⟨Ao23, co23, eo23⟩ := Kd.R_slice HO170.out
           (first | subst eo23 | (injection eo23 with f1_ f2_ f3_; have f4_ := f1_.symm; have f5_ := f3_.symm; clear f1_ f2_ f3_; subst f4_; subst f5_))
           refine hK.out _ _ ⟨HS0_, HS1_, HS2_⟩ (fun hHeld => ?_)
           clear hK K
           refine norm_ (a' := ?_) ?_ ?_
           rotate_left
           ·show Act.put _ (some 25) _ = _
            simp only [Act.put, List.setIfInBounds_toArray, List.set_cons_zero, List.set_cons_succ, i64_w, i32_w]
            rfl
           refine pure_ (i := 12) (N := some 26) (v := ?_) (a' := ?_) #[true, true, true, true, true, true, true, true, true, true, true, true, true, true, false] rfl rfl (any_of HT_.out (by kernel_rfl)) (fun _ _ _ h => h) (Or.inl ⟨by rfl, ?_⟩) ?_ ?_
           rotate_left
           ·intro w'
            go_simp
            with_reducible rfl
           rotate_left
           ·simp only [Act.put, List.setIfInBounds_toArray, List.set_cons_zero, List.set_cons_succ, i64_w, i32_w]
            rfl
           exact norm_ Bb_17 (hCont (.slice Ao23 t168.length co23, .slice Ao22 t172.length co22, .slice Ao21 t176.length co21, gb179) _ ⟨hHeld, Bb_6, Bb_11, Bb_12, Bb_13, Bb_2, Bb_8, GW179.out, GE179.out, NB163_179.out, NB179_163.out, Bb_1⟩)
         ·skip
          refine box_step ?hg (N := 5) ?hd (cs := #[.slice none 0 0, .slice none 0 0, .slice none 0 0]) (t := 39) ?hr ?_; (case hd => rfl); (case hg => rfl); (case hr => first | (go_simp; done) | (go_simp; rfl))
          intro gb179 hg w18 hbox hb
          have HS0_ := (hb.cell (World.block_lt_of_cell? _ _ (hHeld.1))).trans (hHeld.1)
          have HS1_ := (hb.cell (World.block_lt_of_cell? _ _ (hHeld.2.1))).trans (hHeld.2.1)
          have HS2_ := (hb.cell (World.block_lt_of_cell? _ _ (hHeld.2.2))).trans (hHeld.2.2)
          have n0_ := Aside0.mk (Kd.R_below Bb_6 hb)
          have n1_ := Aside0.mk (Kd.R_below Bb_7 hb)
          have n2_ := Aside0.mk (blk_below (g := gb163) (o := .cells #[.slice none 0 0, .slice none 0 0, .slice none 0 0] 39 (0, 0)) Bb_2 hb)
          have n3_ := Aside0.mk (below_step Bb_0 hb)
          have n4_ := Aside0.mk (hbox)
          have n5_ := Aside0.mk ((by rw [hg]; exact (below_size Bb_0) : w.heap.size ≤ gb179))
          have n6_ := Aside0.mk ((by rw [hg]; exact (below_size Bb_0) : w.heap.size ≤ gb179))
          have n7_ := Aside0.mk ((by rw [hg]; exact Nat.ne_of_lt (blk_lt (g := gb163) (o := .cells #[.slice none 0 0, .slice none 0 0, .slice none 0 0] 39 (0, 0)) Bb_2) : gb163 ≠ gb179))
          have n8_ := Aside0.mk ((by rw [hg]; exact Nat.ne_of_gt (blk_lt (g := gb163) (o := .cells #[.slice none 0 0, .slice none 0 0, .slice none 0 0] 39 (0, 0)) Bb_2) : gb179 ≠ gb163))
          clear HO166
          clear HO170
          clear BK163
          clear HB
          have HO166 := n0_
          have HO170 := n1_
          have BK163 := n2_
          have HB := n3_
          have BK179 := n4_
          have GW179 := n5_
          have GE179 := n6_
          have NB163_179 := n7_
          have NB179_163 := n8_
          clear n0_ n1_ n2_ n3_ n4_ n5_ n6_ n7_ n8_
          clear hb hbox hg
          refine hK.out _ _ ⟨HS0_, HS1_, HS2_⟩ (fun hHeld => ?_)
          clear hK K
          refine norm_ (a' := ?_) ?_ ?_
          rotate_left
          ·show Act.put _ (some 5) _ = _
           simp only [Act.put, List.setIfInBounds_toArray, List.set_cons_zero, List.set_cons_succ, i64_w, i32_w]
           rfl
          refine one_ (i := 7) (N := some 21) #[true, true, true, true, true, true, true, true, true, true, true, false, false, true, false] rfl rfl (one_of HT_.out (by kernel_rfl)) (by decide) (fun K hK => ?_)
          refine goes_ Try.func82 (by kernel_rfl) rfl #[.string (rdOf ByteArray.empty t164 1)] (by rfl) rfl rfl Bb_4 ?_
          with_reducible refine (impl_uncommas.calls k (rdOf ByteArray.empty t164 1) t172 _ A7.out).mono ?_
          rintro e w19 ⟨v173, rfl, ho0, hb⟩
          have HS0_ := (hb.cell (World.block_lt_of_cell? _ _ (hHeld.1))).trans (hHeld.1)
          have HS1_ := (hb.cell (World.block_lt_of_cell? _ _ (hHeld.2.1))).trans (hHeld.2.1)
          have HS2_ := (hb.cell (World.block_lt_of_cell? _ _ (hHeld.2.2))).trans (hHeld.2.2)
          refine ⟨_, rfl, ?_⟩
          have n0_ := Aside0.mk (Kd.R_below Bb_6 hb)
          have n1_ := Aside0.mk (Kd.R_elder' Bb_7 (Kd.R_base ho0) hb)
          have n2_ := Aside0.mk (Kd.R_lower (Kd.R_new' ho0 (Kd.R_lt Bb_7)) (below_size Bb_1))
          have n3_ := Aside0.mk (blk_below (g := gb163) (o := .cells #[.slice none 0 0, .slice none 0 0, .slice none 0 0] 39 (0, 0)) Bb_2 hb)
          have n4_ := Aside0.mk (blk_below (g := gb179) (o := .cells #[.slice none 0 0, .slice none 0 0, .slice none 0 0] 39 (0, 0)) Bb_8 hb)
          have n5_ := Aside0.mk (below_step Bb_1 hb)
          clear HO166
          clear HO170
          clear BK163
          clear BK179
          clear HB
          have HO166 := n0_
          have HO170 := n1_
          have HO174 := n2_
          have BK163 := n3_
          have BK179 := n4_
          have HB := n5_
          clear n0_ n1_ n2_ n3_ n4_ n5_
          (try clear hb)
          (try clear hb2)
          (try clear hk)
          (try clear hi)
          (try clear ho0)
          refine hK.out _ _ ⟨HS0_, HS1_, HS2_⟩ (fun hHeld => ?_)
          clear hK K
          refine norm_ (a' := ?_) ?_ ?_
          rotate_left
          ·show Act.put _ (some 21) _ = _
           simp only [Act.put, List.setIfInBounds_toArray, List.set_cons_zero, List.set_cons_succ, i64_w, i32_w]
           rfl
          refine one_ (i := 11) (N := some 25) #[true, true, true, true, true, true, true, true, true, true, true, true, false, true, false] rfl rfl (one_of HT_.out (by kernel_rfl)) (by decide) (fun K hK => ?_)
          refine goes_ Try.func82 (by kernel_rfl) rfl #[.string (rdOf ByteArray.empty t164 2)] (by rfl) rfl rfl Bb_4 ?_
          with_reducible refine (impl_uncommas.calls k (rdOf ByteArray.empty t164 2) t176 _ A9.out).mono ?_
          rintro e w20 ⟨v177, rfl, ho0, hb⟩
          have HS0_ := (hb.cell (World.block_lt_of_cell? _ _ (hHeld.1))).trans (hHeld.1)
          have HS1_ := (hb.cell (World.block_lt_of_cell? _ _ (hHeld.2.1))).trans (hHeld.2.1)
          have HS2_ := (hb.cell (World.block_lt_of_cell? _ _ (hHeld.2.2))).trans (hHeld.2.2)
          refine ⟨_, rfl, ?_⟩
          have n0_ := Aside0.mk (Kd.R_below Bb_6 hb)
          have n1_ := Aside0.mk (Kd.R_elder' Bb_7 (Kd.R_base ho0) hb)
          have n2_ := Aside0.mk (Kd.R_elder' Bb_9 (Kd.R_base ho0) hb)
          have n3_ := Aside0.mk (Kd.R_lower (Kd.R_new' (Kd.R_new' ho0 (Kd.R_lt Bb_7)) (Kd.R_lt Bb_9)) (below_size Bb_1))
          have n4_ := Aside0.mk (blk_below (g := gb163) (o := .cells #[.slice none 0 0, .slice none 0 0, .slice none 0 0] 39 (0, 0)) Bb_2 hb)
          have n5_ := Aside0.mk (blk_below (g := gb179) (o := .cells #[.slice none 0 0, .slice none 0 0, .slice none 0 0] 39 (0, 0)) Bb_8 hb)
          have n6_ := Aside0.mk (below_step Bb_1 hb)
          clear HO166
          clear HO170
          clear HO174
          clear BK163
          clear BK179
          clear HB
          have HO166 := n0_
          have HO170 := n1_
          have HO174 := n2_
          have HO178 := n3_
          have BK163 := n4_
          have BK179 := n5_
          have HB := n6_
          clear n0_ n1_ n2_ n3_ n4_ n5_ n6_
          (try clear hb)
          (try clear hb2)
          (try clear hk)
          (try clear hi)
          (try clear ho0)
          obtain ⟨Ao21, co21, eo21⟩ := Kd.R_slice HO178.out
          (first | subst eo21 | (injection eo21 with f1_ f2_ f3_; have f4_ := f1_.symm; have f5_ := f3_.symm; clear f1_ f2_ f3_; subst f4_; subst f5_))
          obtain ⟨Ao22, co22, eo22⟩ := Kd.R_slice HO174.out
          (first | subst eo22 | (injection eo22 with f1_ f2_ f3_; have f4_ := f1_.symm; have f5_ := f3_.symm; clear f1_ f2_ f3_; subst f4_; subst f5_))
          obtain ⟨Ao23, co23, eo23⟩ := Kd.R_slice HO170.out
          (first | subst eo23 | (injection eo23 with f1_ f2_ f3_; have f4_ := f1_.symm; have f5_ := f3_.symm; clear f1_ f2_ f3_; subst f4_; subst f5_))
          refine hK.out _ _ ⟨HS0_, HS1_, HS2_⟩ (fun hHeld => ?_)
          clear hK K
          refine norm_ (a' := ?_) ?_ ?_
          rotate_left
          ·show Act.put _ (some 25) _ = _
           simp only [Act.put, List.setIfInBounds_toArray, List.set_cons_zero, List.set_cons_succ, i64_w, i32_w]
           rfl
          refine pure_ (i := 12) (N := some 26) (v := ?_) (a' := ?_) #[true, true, true, true, true, true, true, true, true, true, true, true, true, true, false] rfl rfl (any_of HT_.out (by kernel_rfl)) (fun _ _ _ h => h) (Or.inl ⟨by rfl, ?_⟩) ?_ ?_
          rotate_left
          ·intro w'
           go_simp
           with_reducible rfl
          rotate_left
          ·simp only [Act.put, List.setIfInBounds_toArray, List.set_cons_zero, List.set_cons_succ, i64_w, i32_w]
           rfl
          exact norm_ Bb_17 (hCont (.slice Ao23 t168.length co23, .slice Ao22 t172.length co22, .slice Ao21 t176.length co21, gb179) _ ⟨hHeld, Bb_6, Bb_11, Bb_12, Bb_13, Bb_2, Bb_8, GW179.out, GE179.out, NB163_179.out, NB179_163.out, Bb_1⟩)
        ·skip
         refine box_step ?hg (N := 5) ?hd (cs := #[.slice none 0 0, .slice none 0 0, .slice none 0 0]) (t := 39) ?hr ?_; (case hd => rfl); (case hg => rfl); (case hr => first | (go_simp; done) | (go_simp; rfl))
         intro gb179 hg w17 hbox hb
         have HS0_ := (hb.cell (World.block_lt_of_cell? _ _ (hHeld.1))).trans (hHeld.1)
         have HS1_ := (hb.cell (World.block_lt_of_cell? _ _ (hHeld.2.1))).trans (hHeld.2.1)
         have HS2_ := (hb.cell (World.block_lt_of_cell? _ _ (hHeld.2.2))).trans (hHeld.2.2)
         have n0_ := Aside0.mk (Kd.R_below Bb_6 hb)
         have n1_ := Aside0.mk (blk_below (g := gb163) (o := .cells #[.slice none 0 0, .slice none 0 0, .slice none 0 0] 39 (0, 0)) Bb_2 hb)
         have n2_ := Aside0.mk (below_step Bb_0 hb)
         have n3_ := Aside0.mk (hbox)
         have n4_ := Aside0.mk ((by rw [hg]; exact (below_size Bb_0) : w.heap.size ≤ gb179))
         have n5_ := Aside0.mk ((by rw [hg]; exact (below_size Bb_0) : w.heap.size ≤ gb179))
         have n6_ := Aside0.mk ((by rw [hg]; exact Nat.ne_of_lt (blk_lt (g := gb163) (o := .cells #[.slice none 0 0, .slice none 0 0, .slice none 0 0] 39 (0, 0)) Bb_2) : gb163 ≠ gb179))
         have n7_ := Aside0.mk ((by rw [hg]; exact Nat.ne_of_gt (blk_lt (g := gb163) (o := .cells #[.slice none 0 0, .slice none 0 0, .slice none 0 0] 39 (0, 0)) Bb_2) : gb179 ≠ gb163))
         clear HO166
         clear BK163
         clear HB
         have HO166 := n0_
         have BK163 := n1_
         have HB := n2_
         have BK179 := n3_
         have GW179 := n4_
         have GE179 := n5_
         have NB163_179 := n6_
         have NB179_163 := n7_
         clear n0_ n1_ n2_ n3_ n4_ n5_ n6_ n7_
         clear hb hbox hg
         refine hK.out _ _ ⟨HS0_, HS1_, HS2_⟩ (fun hHeld => ?_)
         clear hK K
         refine norm_ (a' := ?_) ?_ ?_
         rotate_left
         ·show Act.put _ (some 5) _ = _
          simp only [Act.put, List.setIfInBounds_toArray, List.set_cons_zero, List.set_cons_succ, i64_w, i32_w]
          rfl
         refine one_ (i := 3) (N := some 17) #[true, true, true, true, true, true, true, false, true, true, true, false, false, true, false] rfl rfl (one_of HT_.out (by kernel_rfl)) (by decide) (fun K hK => ?_)
         refine goes_ Try.func82 (by kernel_rfl) rfl #[.string (rdOf ByteArray.empty t164 0)] (by rfl) rfl rfl Bb_4 ?_
         with_reducible refine (impl_uncommas.calls k (rdOf ByteArray.empty t164 0) t168 _ A5.out).mono ?_
         rintro e w18 ⟨v169, rfl, ho0, hb⟩
         have HS0_ := (hb.cell (World.block_lt_of_cell? _ _ (hHeld.1))).trans (hHeld.1)
         have HS1_ := (hb.cell (World.block_lt_of_cell? _ _ (hHeld.2.1))).trans (hHeld.2.1)
         have HS2_ := (hb.cell (World.block_lt_of_cell? _ _ (hHeld.2.2))).trans (hHeld.2.2)
         refine ⟨_, rfl, ?_⟩
         have n0_ := Aside0.mk (Kd.R_below Bb_6 hb)
         have n1_ := Aside0.mk (Kd.R_lower ho0 (below_size Bb_1))
         have n2_ := Aside0.mk (blk_below (g := gb163) (o := .cells #[.slice none 0 0, .slice none 0 0, .slice none 0 0] 39 (0, 0)) Bb_2 hb)
         have n3_ := Aside0.mk (blk_below (g := gb179) (o := .cells #[.slice none 0 0, .slice none 0 0, .slice none 0 0] 39 (0, 0)) Bb_8 hb)
         have n4_ := Aside0.mk (below_step Bb_1 hb)
         clear HO166
         clear BK163
         clear BK179
         clear HB
         have HO166 := n0_
         have HO170 := n1_
         have BK163 := n2_
         have BK179 := n3_
         have HB := n4_
         clear n0_ n1_ n2_ n3_ n4_
         (try clear hb)
         (try clear hb2)
         (try clear hk)
         (try clear hi)
         (try clear ho0)
         refine hK.out _ _ ⟨HS0_, HS1_, HS2_⟩ (fun hHeld => ?_)
         clear hK K
         refine norm_ (a' := ?_) ?_ ?_
         rotate_left
         ·show Act.put _ (some 17) _ = _
          simp only [Act.put, List.setIfInBounds_toArray, List.set_cons_zero, List.set_cons_succ, i64_w, i32_w]
          rfl
         refine one_ (i := 7) (N := some 21) #[true, true, true, true, true, true, true, true, true, true, true, false, false, true, false] rfl rfl (one_of HT_.out (by kernel_rfl)) (by decide) (fun K hK => ?_)
         refine goes_ Try.func82 (by kernel_rfl) rfl #[.string (rdOf ByteArray.empty t164 1)] (by rfl) rfl rfl Bb_4 ?_
         with_reducible refine (impl_uncommas.calls k (rdOf ByteArray.empty t164 1) t172 _ A7.out).mono ?_
         rintro e w19 ⟨v173, rfl, ho0, hb⟩
         have HS0_ := (hb.cell (World.block_lt_of_cell? _ _ (hHeld.1))).trans (hHeld.1)
         have HS1_ := (hb.cell (World.block_lt_of_cell? _ _ (hHeld.2.1))).trans (hHeld.2.1)
         have HS2_ := (hb.cell (World.block_lt_of_cell? _ _ (hHeld.2.2))).trans (hHeld.2.2)
         refine ⟨_, rfl, ?_⟩
         have n0_ := Aside0.mk (Kd.R_below Bb_6 hb)
         have n1_ := Aside0.mk (Kd.R_elder' Bb_7 (Kd.R_base ho0) hb)
         have n2_ := Aside0.mk (Kd.R_lower (Kd.R_new' ho0 (Kd.R_lt Bb_7)) (below_size Bb_1))
         have n3_ := Aside0.mk (blk_below (g := gb163) (o := .cells #[.slice none 0 0, .slice none 0 0, .slice none 0 0] 39 (0, 0)) Bb_2 hb)
         have n4_ := Aside0.mk (blk_below (g := gb179) (o := .cells #[.slice none 0 0, .slice none 0 0, .slice none 0 0] 39 (0, 0)) Bb_8 hb)
         have n5_ := Aside0.mk (below_step Bb_1 hb)
         clear HO166
         clear HO170
         clear BK163
         clear BK179
         clear HB
         have HO166 := n0_
         have HO170 := n1_
         have HO174 := n2_
         have BK163 := n3_
         have BK179 := n4_
         have HB := n5_
         clear n0_ n1_ n2_ n3_ n4_ n5_
         (try clear hb)
         (try clear hb2)
         (try clear hk)
         (try clear hi)
         (try clear ho0)
         refine hK.out _ _ ⟨HS0_, HS1_, HS2_⟩ (fun hHeld => ?_)
         clear hK K
         refine norm_ (a' := ?_) ?_ ?_
         rotate_left
         ·show Act.put _ (some 21) _ = _
          simp only [Act.put, List.setIfInBounds_toArray, List.set_cons_zero, List.set_cons_succ, i64_w, i32_w]
          rfl
         refine one_ (i := 11) (N := some 25) #[true, true, true, true, true, true, true, true, true, true, true, true, false, true, false] rfl rfl (one_of HT_.out (by kernel_rfl)) (by decide) (fun K hK => ?_)
         refine goes_ Try.func82 (by kernel_rfl) rfl #[.string (rdOf ByteArray.empty t164 2)] (by rfl) rfl rfl Bb_4 ?_
         with_reducible refine (impl_uncommas.calls k (rdOf ByteArray.empty t164 2) t176 _ A9.out).mono ?_
         rintro e w20 ⟨v177, rfl, ho0, hb⟩
         have HS0_ := (hb.cell (World.block_lt_of_cell? _ _ (hHeld.1))).trans (hHeld.1)
         have HS1_ := (hb.cell (World.block_lt_of_cell? _ _ (hHeld.2.1))).trans (hHeld.2.1)
         have HS2_ := (hb.cell (World.block_lt_of_cell? _ _ (hHeld.2.2))).trans (hHeld.2.2)
         refine ⟨_, rfl, ?_⟩
         have n0_ := Aside0.mk (Kd.R_below Bb_6 hb)
         have n1_ := Aside0.mk (Kd.R_elder' Bb_7 (Kd.R_base ho0) hb)
         have n2_ := Aside0.mk (Kd.R_elder' Bb_9 (Kd.R_base ho0) hb)
         have n3_ := Aside0.mk (Kd.R_lower (Kd.R_new' (Kd.R_new' ho0 (Kd.R_lt Bb_7)) (Kd.R_lt Bb_9)) (below_size Bb_1))
         have n4_ := Aside0.mk (blk_below (g := gb163) (o := .cells #[.slice none 0 0, .slice none 0 0, .slice none 0 0] 39 (0, 0)) Bb_2 hb)
         have n5_ := Aside0.mk (blk_below (g := gb179) (o := .cells #[.slice none 0 0, .slice none 0 0, .slice none 0 0] 39 (0, 0)) Bb_8 hb)
         have n6_ := Aside0.mk (below_step Bb_1 hb)
         clear HO166
         clear HO170
         clear HO174
         clear BK163
         clear BK179
         clear HB
         have HO166 := n0_
         have HO170 := n1_
         have HO174 := n2_
         have HO178 := n3_
         have BK163 := n4_
         have BK179 := n5_
         have HB := n6_
         clear n0_ n1_ n2_ n3_ n4_ n5_ n6_
         (try clear hb)
         (try clear hb2)
         (try clear hk)
         (try clear hi)
         (try clear ho0)
         obtain ⟨Ao21, co21, eo21⟩ := Kd.R_slice HO178.out
         (first | subst eo21 | (injection eo21 with f1_ f2_ f3_; have f4_ := f1_.symm; have f5_ := f3_.symm; clear f1_ f2_ f3_; subst f4_; subst f5_))
         obtain ⟨Ao22, co22, eo22⟩ := Kd.R_slice HO174.out
         (first | subst eo22 | (injection eo22 with f1_ f2_ f3_; have f4_ := f1_.symm; have f5_ := f3_.symm; clear f1_ f2_ f3_; subst f4_; subst f5_))
         obtain ⟨Ao23, co23, eo23⟩ := Kd.R_slice HO170.out
         (first | subst eo23 | (injection eo23 with f1_ f2_ f3_; have f4_ := f1_.symm; have f5_ := f3_.symm; clear f1_ f2_ f3_; subst f4_; subst f5_))
         refine hK.out _ _ ⟨HS0_, HS1_, HS2_⟩ (fun hHeld => ?_)
         clear hK K
         refine norm_ (a' := ?_) ?_ ?_
         rotate_left
         ·show Act.put _ (some 25) _ = _
          simp only [Act.put, List.setIfInBounds_toArray, List.set_cons_zero, List.set_cons_succ, i64_w, i32_w]
          rfl
         refine pure_ (i := 12) (N := some 26) (v := ?_) (a' := ?_) #[true, true, true, true, true, true, true, true, true, true, true, true, true, true, false] rfl rfl (any_of HT_.out (by kernel_rfl)) (fun _ _ _ h => h) (Or.inl ⟨by rfl, ?_⟩) ?_ ?_
         rotate_left
         ·intro w'
          go_simp
          with_reducible rfl
         rotate_left
         ·simp only [Act.put, List.setIfInBounds_toArray, List.set_cons_zero, List.set_cons_succ, i64_w, i32_w]
          rfl
         exact norm_ Bb_17 (hCont (.slice Ao23 t168.length co23, .slice Ao22 t172.length co22, .slice Ao21 t176.length co21, gb179) _ ⟨hHeld, Bb_6, Bb_11, Bb_12, Bb_13, Bb_2, Bb_8, GW179.out, GE179.out, NB163_179.out, NB179_163.out, Bb_1⟩)
       rintro ⟨v169, v173, v177, gb179⟩ w24 ⟨hS_, h0_, h1_, h2_, h3_, h4_, h5_, h6_, h7_, h8_, h9_, h10_⟩
       have n0_ : Aside0 (Kd.R Kd.string 9 w24 w.heap.size (fun _ => True) (.slice (some ad167) t164.length co15) t164) := ⟨h0_⟩
       have n1_ : Aside0 (Kd.R (Kd.int .i64) 3 w24 w.heap.size (fun k_ => some k_ ≠ (v173 : Value).ownBlock ∧ some k_ ≠ (v177 : Value).ownBlock) v169 t168) := ⟨h1_⟩
       have n2_ : Aside0 (Kd.R (Kd.int .i64) 3 w24 w.heap.size (fun k_ => some k_ ≠ (v169 : Value).ownBlock ∧ some k_ ≠ (v177 : Value).ownBlock) v173 t172) := ⟨h2_⟩
       have n3_ : Aside0 (Kd.R (Kd.int .i64) 3 w24 w.heap.size (fun k_ => some k_ ≠ (v169 : Value).ownBlock ∧ some k_ ≠ (v173 : Value).ownBlock) v177 t176) := ⟨h3_⟩
       have n4_ : Aside0 (w24.heap[gb163]? = some (.cells #[.slice none 0 0, .slice none 0 0, .slice none 0 0] 39 (0, 0))) := ⟨h4_⟩
       have n5_ : Aside0 (w24.heap[gb179]? = some (.cells #[.slice none 0 0, .slice none 0 0, .slice none 0 0] 39 (0, 0))) := ⟨h5_⟩
       have n6_ : Aside0 (w.heap.size ≤ gb179) := ⟨h6_⟩
       have n7_ : Aside0 (w.heap.size ≤ gb179) := ⟨h7_⟩
       have n8_ : Aside0 (gb163 ≠ gb179) := ⟨h8_⟩
       have n9_ : Aside0 (gb179 ≠ gb163) := ⟨h9_⟩
       have n10_ : Aside0 (Below w.heap.size w w24) := ⟨h10_⟩
       clear HO166
       clear BK163
       clear HB
       clear h0_ h1_ h2_ h3_ h4_ h5_ h6_ h7_ h8_ h9_ h10_
       have HO166 := n0_
       have HO170 := n1_
       have HO174 := n2_
       have HO178 := n3_
       have BK163 := n4_
       have BK179 := n5_
       have GW179 := n6_
       have GE179 := n7_
       have NB163_179 := n8_
       have NB179_163 := n9_
       have HB := n10_
       clear n0_ n1_ n2_ n3_ n4_ n5_ n6_ n7_ n8_ n9_ n10_
       have hHeld : w24.cell? ad167 = some (.string (rdOf ByteArray.empty t164 0)) ∧ w24.cell? ⟨ad167.block, ad167.off + 1, none⟩ = some (.string (rdOf ByteArray.empty t164 1)) ∧ w24.cell? ⟨ad167.block, ad167.off + 2, none⟩ = some (.string (rdOf ByteArray.empty t164 2)) := hS_
       obtain ⟨Ao25, co25, eo25⟩ := Kd.R_slice HO178.out
       (first | subst eo25 | (injection eo25 with f1_ f2_ f3_; have f4_ := f1_.symm; have f5_ := f3_.symm; clear f1_ f2_ f3_; subst f4_; subst f5_))
       obtain ⟨Ao26, co26, eo26⟩ := Kd.R_slice HO174.out
       (first | subst eo26 | (injection eo26 with f1_ f2_ f3_; have f4_ := f1_.symm; have f5_ := f3_.symm; clear f1_ f2_ f3_; subst f4_; subst f5_))
       obtain ⟨Ao27, co27, eo27⟩ := Kd.R_slice HO170.out
       (first | subst eo27 | (injection eo27 with f1_ f2_ f3_; have f4_ := f1_.symm; have f5_ := f3_.symm; clear f1_ f2_ f3_; subst f4_; subst f5_))
       refine norm_ (a' := ?_) ?_ ?_
       rotate_left
       ·simp only [putAll, Act.put, List.setIfInBounds_toArray, List.set_cons_zero, List.set_cons_succ]
        rfl
       refine one_ (i := 14) (N := none) #[true, true, true, true, true, true, true, true, true, true, true, true, true, true, true] rfl rfl (one_of HT_.out (by kernel_rfl)) (by decide) (fun K hK => ?_)
       have hs28 : w24.cell? ⟨gb179, 0, none⟩ = some (.slice none 0 0) := (blk_cell BK179.out 0).trans rfl
       have hfs28 := blk_frozen BK179.out 0
       have hns28_0 := NB163_179.out
       have hms28_0 := NB179_163.out
       have hs29 : w24.cell? ⟨gb179, 1, none⟩ = some (.slice none 0 0) := (blk_cell BK179.out 1).trans rfl
       have hfs29 := blk_frozen BK179.out 1
       have hns29_0 := NB163_179.out
       have hms29_0 := NB179_163.out
       have hs30 : w24.cell? ⟨gb179, 2, none⟩ = some (.slice none 0 0) := (blk_cell BK179.out 2).trans rfl
       have hfs30 := blk_frozen BK179.out 2
       have hns30_0 := NB163_179.out
       have hms30_0 := NB179_163.out
       refine skip_ (w1 := ?_) (by rfl) rfl ?_ ?_
       rotate_left
       ·go_simp
        rfl
       refine hK.out _ _ ⟨((cell_far (p := ⟨gb179, _, none⟩) Bb_3 _).trans (((cell_far (p := ⟨gb179, _, none⟩) Bb_3 _).trans (((cell_far (p := ⟨gb179, _, none⟩) Bb_3 _).trans (hHeld.1)))))), ((cell_far (p := ⟨gb179, _, none⟩) Bb_3 _).trans (((cell_far (p := ⟨gb179, _, none⟩) Bb_3 _).trans (((cell_far (p := ⟨gb179, _, none⟩) Bb_3 _).trans (hHeld.2.1)))))), ((cell_far (p := ⟨gb179, _, none⟩) Bb_3 _).trans (((cell_far (p := ⟨gb179, _, none⟩) Bb_3 _).trans (((cell_far (p := ⟨gb179, _, none⟩) Bb_3 _).trans (hHeld.2.2))))))⟩ (fun hHeld => ?_)
       clear hK K
       refine done_ (done_of HT_.out (by kernel_rfl)) ?_
       have hnb31 := NB179_163.out
       have hnc31 := NB163_179.out
       have hcz32_0 : w24.cell? ⟨gb179, 0, none⟩ = some (.slice none 0 0) := (blk_cell BK179.out 0).trans rfl
       have hcz32_1 : w24.cell? ⟨gb179, 1, none⟩ = some (.slice none 0 0) := (blk_cell BK179.out 1).trans rfl
       have hcz32_2 : w24.cell? ⟨gb179, 2, none⟩ = some (.slice none 0 0) := (blk_cell BK179.out 2).trans rfl
       have hfz32_0 := blk_frozen BK179.out 0
       have hfz32_1 := blk_frozen BK179.out 1
       have hfz32_2 := blk_frozen BK179.out 2
       try go_wp2_with (first | ((with_reducible refine gate_callee (f := 23) rfl ?_); refine goesL_ (some 29) rfl rfl Try.func23 (by kernel_rfl) rfl #[.agg #[.slice Ao27 t168.length co27, .slice Ao26 t172.length co26, .slice Ao25 t176.length co25]] rfl Bb_4 ?_; (with_reducible refine (impl_LayoutText.calls k _ _ t168 _ _ t172 _ _ t176 t180 true _ ?side1 ?side2 ?side3 ?side4 ?side5 ?side6 A10.out).mono ?_); (case side1 => refine (Kd.R_reads' (e := 3) (base := w.heap.size) (ok := fun k_ => (some k_ ≠ (.slice Ao26 t172.length co26 : Value).ownBlock ∧ some k_ ≠ (.slice Ao25 t176.length co25 : Value).ownBlock)) (n := t168.length) (c := co27) ?_).2.2; exact Bb_19); (case side2 => exact (Kd.R_reads' HO170.out).2.1); (case side3 => refine (Kd.R_reads' (e := 3) (base := w.heap.size) (ok := fun k_ => (some k_ ≠ (.slice Ao27 t168.length co27 : Value).ownBlock ∧ some k_ ≠ (.slice Ao25 t176.length co25 : Value).ownBlock)) (n := t172.length) (c := co26) ?_).2.2; exact Bb_20); (case side4 => exact (Kd.R_reads' HO174.out).2.1); (case side5 => refine (Kd.R_reads' (e := 3) (base := w.heap.size) (ok := fun k_ => (some k_ ≠ (.slice Ao27 t168.length co27 : Value).ownBlock ∧ some k_ ≠ (.slice Ao26 t172.length co26 : Value).ownBlock)) (n := t176.length) (c := co25) ?_).2.2; exact Bb_21); (case side6 => exact (Kd.R_reads' HO178.out).2.1); rintro e w33 ⟨rfl, hb⟩; refine ⟨_, rfl, ?_⟩; have n0_ := Aside0.mk (Kd.R_below (by (with_reducible repeat (first | apply Kd.R_alloc | apply Kd.R_drewN | apply Kd.R_drew)); exact (Kd.R_mono (Kd.R_far (p := ⟨gb179, 2, none⟩) (Kd.R_far (p := ⟨gb179, 1, none⟩) (Kd.R_far (p := ⟨gb179, 0, none⟩) (Kd.R_types HO166.out BK179.out (by decide)) (fun _ hk => hk.2) (.slice Ao27 t168.length co27)) (fun _ hk => hk.2) (.slice Ao26 t172.length co26)) (fun _ hk => hk.2) (.slice Ao25 t176.length co25)) (fun _ h_ => h_.1))) hb); have n1_ := Aside0.mk (Kd.R_below Bb_19 hb); have n2_ := Aside0.mk (Kd.R_below Bb_20 hb); have n3_ := Aside0.mk (Kd.R_below Bb_21 hb); have n4_ := Aside0.mk (blk_below (g := gb163) (o := .cells #[.slice none 0 0, .slice none 0 0, .slice none 0 0] 39 (0, 0)) Bb_16 hb); have n5_ := Aside0.mk (blk_below (g := gb179) (o := .cells #[.slice Ao27 t168.length co27, .slice Ao26 t172.length co26, .slice Ao25 t176.length co25] 39 (0, 0)) (by (with_reducible repeat (first | refine blk_drewN ?_ _ | refine blk_drew ?_ | refine blk_alloc ?_ _)); refine blk_put (cs := #[.slice Ao27 t168.length co27, .slice Ao26 t172.length co26, .slice none 0 0]) ?_ 2 _ rfl; (with_reducible repeat (first | refine blk_drewN ?_ _ | refine blk_drew ?_ | refine blk_alloc ?_ _)); refine blk_put (cs := #[.slice Ao27 t168.length co27, .slice none 0 0, .slice none 0 0]) ?_ 1 _ rfl; (with_reducible repeat (first | refine blk_drewN ?_ _ | refine blk_drew ?_ | refine blk_alloc ?_ _)); refine blk_put (cs := #[.slice none 0 0, .slice none 0 0, .slice none 0 0]) ?_ 0 _ rfl; (with_reducible repeat (first | refine blk_drewN ?_ _ | refine blk_drew ?_ | refine blk_alloc ?_ _)); exact BK179.out) hb); have n6_ := Aside0.mk (below_step Bb_1 hb); clear HO166; clear HO170; clear HO174; clear HO178; clear BK163; clear BK179; clear HB; have HO166 := n0_; have HO170 := n1_; have HO174 := n2_; have HO178 := n3_; have BK163 := n4_; have BK179 := n5_; have HB := n6_; clear n0_ n1_ n2_ n3_ n4_ n5_ n6_; (try clear hb); (try clear hb2); (try clear hk); (try clear hi); have hcz34_0 : w33.cell? ⟨gb179, 0, none⟩ = some (.slice Ao27 t168.length co27) := (blk_cell BK179.out 0).trans rfl; have hcz34_1 : w33.cell? ⟨gb179, 1, none⟩ = some (.slice Ao26 t172.length co26) := (blk_cell BK179.out 1).trans rfl; have hcz34_2 : w33.cell? ⟨gb179, 2, none⟩ = some (.slice Ao25 t176.length co25) := (blk_cell BK179.out 2).trans rfl; have hfz34_0 := blk_frozen BK179.out 0; have hfz34_1 := blk_frozen BK179.out 1; have hfz34_2 := blk_frozen BK179.out 2; have hcz35_0 : w33.cell? ⟨gb163, 0, none⟩ = some (.slice none 0 0) := (blk_cell BK163.out 0).trans rfl; have hcz35_1 : w33.cell? ⟨gb163, 1, none⟩ = some (.slice none 0 0) := (blk_cell BK163.out 1).trans rfl; have hcz35_2 : w33.cell? ⟨gb163, 2, none⟩ = some (.slice none 0 0) := (blk_cell BK163.out 2).trans rfl; have hfz35_0 := blk_frozen BK163.out 0; have hfz35_1 := blk_frozen BK163.out 1; have hfz35_2 := blk_frozen BK163.out 2))
       refine bodyPost_ret (results_ct rfl _ _ gb163 39 #[.slice Ao27 t168.length co27, .slice Ao26 t172.length co26, .slice Ao25 t176.length co25] (0, 0) _ rfl (by (with_reducible repeat (first | refine blk_drewN ?_ _ | refine blk_drew ?_ | refine blk_alloc ?_ _)); refine blk_put (cs := #[.slice Ao27 t168.length co27, .slice Ao26 t172.length co26, .slice none 0 0]) ?_ 2 _ rfl; (with_reducible repeat (first | refine blk_drewN ?_ _ | refine blk_drew ?_ | refine blk_alloc ?_ _)); refine blk_put (cs := #[.slice Ao27 t168.length co27, .slice none 0 0, .slice none 0 0]) ?_ 1 _ rfl; (with_reducible repeat (first | refine blk_drewN ?_ _ | refine blk_drew ?_ | refine blk_alloc ?_ _)); refine blk_put (cs := #[.slice none 0 0, .slice none 0 0, .slice none 0 0]) ?_ 0 _ rfl; (with_reducible repeat (first | refine blk_drewN ?_ _ | refine blk_drew ?_ | refine blk_alloc ?_ _)); exact BK163.out) Try.underlying39 rfl (by kernel_rfl)) rfl ?_
       exact ⟨_, _, _, by first | rfl | (simp [errW_none, errW_some] <;> rfl) | (simp [*, errW_none, errW_some] <;> rfl), by (with_reducible repeat (first | apply Kd.R_alloc | apply Kd.R_drewN | apply Kd.R_drew)); exact Kd.R_mono (Kd.R_far (p := ⟨gb163, 2, none⟩) (Kd.R_far (p := ⟨gb163, 1, none⟩) (Kd.R_far (p := ⟨gb163, 0, none⟩) (Kd.R_types HO170.out BK163.out (by decide)) (fun _ hk => hk.2) (.slice Ao27 t168.length co27)) (fun _ hk => hk.2) (.slice Ao26 t172.length co26)) (fun _ hk => hk.2) (.slice Ao25 t176.length co25)) (fun _ hk => ⟨hk.1.1, hk.1.2⟩), by (with_reducible repeat (first | apply Kd.R_alloc | apply Kd.R_drewN | apply Kd.R_drew)); exact Kd.R_mono (Kd.R_far (p := ⟨gb163, 2, none⟩) (Kd.R_far (p := ⟨gb163, 1, none⟩) (Kd.R_far (p := ⟨gb163, 0, none⟩) (Kd.R_types HO174.out BK163.out (by decide)) (fun _ hk => hk.2) (.slice Ao27 t168.length co27)) (fun _ hk => hk.2) (.slice Ao26 t172.length co26)) (fun _ hk => hk.2) (.slice Ao25 t176.length co25)) (fun _ hk => ⟨hk.1.1, hk.1.2⟩), by (with_reducible repeat (first | apply Kd.R_alloc | apply Kd.R_drewN | apply Kd.R_drew)); exact Kd.R_mono (Kd.R_far (p := ⟨gb163, 2, none⟩) (Kd.R_far (p := ⟨gb163, 1, none⟩) (Kd.R_far (p := ⟨gb163, 0, none⟩) (Kd.R_types HO178.out BK163.out (by decide)) (fun _ hk => hk.2) (.slice Ao27 t168.length co27)) (fun _ hk => hk.2) (.slice Ao26 t172.length co26)) (fun _ hk => hk.2) (.slice Ao25 t176.length co25)) (fun _ hk => ⟨hk.1.1, hk.1.2⟩), by repeat (first | (with_reducible first | exact HB.out | apply below_alloc | apply pw_below_drewN | apply below_drew1 | refine below_set ?_ GE163.out | refine below_set ?_ GE179.out) | exact HB.out)⟩
      ·rw [if_neg c12] at H
       have c12b0 : (t180.toList == a0.toList) = false := beq_eq_false_iff_ne.mpr c12
       have c12b1 : (t180.toList != a0.toList) = true := bne_iff_ne.mpr c12
       simp only [Option.some.injEq, Prod.mk.injEq] at H
       obtain ⟨rfl, rfl, rfl, rfl⟩ := H
       go_enter Try.func24, Try.ntmps24
       try go_wp2_with (first | ((with_reducible refine gate_dst (N := 2) rfl ?_); refine box_event ?hg (N := 2) ?hd (cs := #[.slice none 0 0, .slice none 0 0, .slice none 0 0]) (t := 39) ?hr ?_; (case hd => rfl); (case hg => rfl); (case hr => first | (go_simp; done) | (go_simp; rfl)); intro gb163 hg w36 hbox hb; have n0_ := Aside0.mk (below_step Bb_5 hb); have n1_ := Aside0.mk (hbox); have n2_ := Aside0.mk ((by rw [hg]; exact (below_size Bb_5) : w.heap.size ≤ gb163)); have n3_ := Aside0.mk ((by rw [hg]; exact (below_size Bb_5) : w.heap.size ≤ gb163)); clear HB; have HB := n0_; have BK163 := n1_; have GW163 := n2_; have GE163 := n3_; clear n0_ n1_ n2_ n3_; clear hb hbox hg) | ((with_reducible refine gate_callee (f := 75) rfl ?_); refine goesL_ (some 9) rfl rfl Try.func75 (by kernel_rfl) rfl #[.string a0, .int .u8 47] rfl Bb_4 ?_; (with_reducible refine (impl_cut.calls k a0 47 t164 _ A2.out).mono ?_); rintro e w37 ⟨v165, rfl, ho0, hb⟩; refine ⟨_, rfl, ?_⟩; have n0_ := Aside0.mk (Kd.R_lower ho0 (below_size Bb_0)); have n1_ := Aside0.mk (blk_below (g := gb163) (o := .cells #[.slice none 0 0, .slice none 0 0, .slice none 0 0] 39 (0, 0)) Bb_2 hb); have n2_ := Aside0.mk (below_step Bb_0 hb); clear BK163; clear HB; have HO166 := n0_; have BK163 := n1_; have HB := n2_; clear n0_ n1_ n2_; (try clear hb); (try clear hb2); (try clear hk); (try clear hi); (try clear ho0); obtain ⟨Ao38, co38, eo38⟩ := Kd.R_slice HO166.out; subst eo38))
       have n0_ := Aside0.mk (Kd.R_drew HO166.out)
       have n1_ := Aside0.mk (blk_drew BK163.out)
       have n2_ := Aside0.mk (below_drew1 HB.out)
       clear HO166
       clear BK163
       clear HB
       have HO166 := n0_
       have BK163 := n1_
       have HB := n2_
       clear n0_ n1_ n2_
       have p167 : 0 ≤ (0 : Int) := (by omega)
       have q167 : 0 < (t164.length : Int) := of_decide_eq_true Bb_10
       obtain ⟨ad167, e167, hx167_0⟩ := Kd.at_string (Kd.R_reads' HO166.out).2.2 0 p167 q167
       cases e167
       have qi167 : (0 < t164.length) = True := eq_true (by omega)
       (try rw [show ((0 : Int)).toNat = 0 from rfl] at hx167_0)
       (try rw [Addr.add_zero'] at hx167_0)
       replace p167 := eq_true p167
       replace q167 := eq_true q167
       have p171 : 0 ≤ (1 : Int) := (by omega)
       have q171 : 1 < (t164.length : Int) := of_decide_eq_true Bb_10
       obtain ⟨ad171, e171, hx171_0⟩ := Kd.at_string (Kd.R_reads' HO166.out).2.2 1 p171 q171
       obtain rfl : ad167 = ad171 := (by injection e171)
       (try simp only [show (1 : Int).toNat = 1 from rfl, Nat.reduceMul, Nat.reduceEqDiff, Go.Addr.add, ↓reduceIte] at hx171_0)
       have qi171 : (1 < t164.length) = True := eq_true (by omega)
       (try rw [show ((1 : Int)).toNat = 1 from rfl] at hx171_0)
       replace p171 := eq_true p171
       replace q171 := eq_true q171
       have p175 : 0 ≤ (2 : Int) := (by omega)
       have q175 : 2 < (t164.length : Int) := of_decide_eq_true Bb_10
       obtain ⟨ad175, e175, hx175_0⟩ := Kd.at_string (Kd.R_reads' HO166.out).2.2 2 p175 q175
       obtain rfl : ad167 = ad175 := (by injection e175)
       (try simp only [show (2 : Int).toNat = 2 from rfl, Nat.reduceMul, Nat.reduceEqDiff, Go.Addr.add, ↓reduceIte] at hx175_0)
       have qi175 : (2 < t164.length) = True := eq_true (by omega)
       (try rw [show ((2 : Int)).toNat = 2 from rfl] at hx175_0)
       replace p175 := eq_true p175
       replace q175 := eq_true q175
       refine start_ (n := 15) (S := fun w' => w'.cell? ad167 = some (.string (rdOf ByteArray.empty t164 0)) ∧ w'.cell? ⟨ad167.block, ad167.off + 1, none⟩ = some (.string (rdOf ByteArray.empty t164 1)) ∧ w'.cell? ⟨ad167.block, ad167.off + 2, none⟩ = some (.string (rdOf ByteArray.empty t164 2))) (ds := []) #[false, false, false, false, false, false, false, false, false, false, false, false, false, false, false] (by kernel_rfl) rfl rfl ⟨hx167_0, hx171_0, hx175_0⟩ (fun hHeld => ?_); refine with_tabW impl_ReadLayout.tab4 impl_ReadLayout.bits4 (fun HT_ HW_ => ?_)
       generalize w37.drew = w39 at HO166 BK163 HB hx167_0 hx171_0 hx175_0 hHeld ⊢
       refine pure_ (i := 0) (N := some 14) (v := ?_) (a' := ?_) #[true, false, false, false, false, false, false, false, false, false, false, false, false, false, false] rfl rfl (any_of HT_.out (by kernel_rfl)) (fun _ _ _ h => h) (Or.inl ⟨by rfl, ?_⟩) ?_ ?_
       rotate_left
       ·intro w'
        go_simp
        with_reducible rfl
       rotate_left
       ·simp only [Act.put, List.setIfInBounds_toArray, List.set_cons_zero, List.set_cons_succ, i64_w, i32_w]
        rfl
       refine pure_ (i := 1) (N := some 15) (v := ?_) (a' := ?_) #[true, true, false, false, false, false, false, false, false, false, false, false, false, false, false] rfl rfl (any_of HT_.out (by kernel_rfl)) (fun _ _ _ h => h) (Or.inl ⟨by rfl, ?_⟩) ?_ ?_
       rotate_left
       ·intro w'
        go_simp
        with_reducible rfl
       rotate_left
       ·simp only [Act.put, List.setIfInBounds_toArray, List.set_cons_zero, List.set_cons_succ, i64_w, i32_w]
        rfl
       refine pure_ (i := 4) (N := some 18) (v := ?_) (a' := ?_) #[true, true, false, false, true, false, false, false, false, false, false, false, false, false, false] rfl rfl (any_of HT_.out (by kernel_rfl)) (fun _ _ _ h => h) (Or.inl ⟨by rfl, ?_⟩) ?_ ?_
       rotate_left
       ·intro w'
        go_simp
        with_reducible rfl
       rotate_left
       ·simp only [Act.put, List.setIfInBounds_toArray, List.set_cons_zero, List.set_cons_succ, i64_w, i32_w]
        rfl
       refine pure_ (i := 5) (N := some 19) (v := ?_) (a' := ?_) #[true, true, false, false, true, true, false, false, false, false, false, false, false, false, false] rfl rfl (any_of HT_.out (by kernel_rfl)) (fun _ _ _ h => h) (Or.inl ⟨by rfl, ?_⟩) ?_ ?_
       rotate_left
       ·intro w'
        go_simp
        with_reducible rfl
       rotate_left
       ·simp only [Act.put, List.setIfInBounds_toArray, List.set_cons_zero, List.set_cons_succ, i64_w, i32_w]
        rfl
       refine pure_ (i := 8) (N := some 22) (v := ?_) (a' := ?_) #[true, true, false, false, true, true, false, false, true, false, false, false, false, false, false] rfl rfl (any_of HT_.out (by kernel_rfl)) (fun _ _ _ h => h) (Or.inl ⟨by rfl, ?_⟩) ?_ ?_
       rotate_left
       ·intro w'
        go_simp
        with_reducible rfl
       rotate_left
       ·simp only [Act.put, List.setIfInBounds_toArray, List.set_cons_zero, List.set_cons_succ, i64_w, i32_w]
        rfl
       refine pure_ (i := 9) (N := some 23) (v := ?_) (a' := ?_) #[true, true, false, false, true, true, false, false, true, true, false, false, false, false, false] rfl rfl (any_of HT_.out (by kernel_rfl)) (fun _ _ _ h => h) (Or.inl ⟨by rfl, ?_⟩) ?_ ?_
       rotate_left
       ·intro w'
        go_simp
        with_reducible rfl
       rotate_left
       ·simp only [Act.put, List.setIfInBounds_toArray, List.set_cons_zero, List.set_cons_succ, i64_w, i32_w]
        rfl
       refine take_ (i := 2) (N := some 16) (v := ?_) (a' := ?_) #[true, true, true, false, true, true, false, false, true, true, false, false, false, false, false] rfl rfl (take_ofW HT_.out HW_.out (by kernel_rfl)) (fun _ _ _ h => h) (Or.inl ⟨by rfl, ?_⟩) hHeld ?_ ?_
       rotate_left
       ·rintro w' ⟨s0, s1, s2⟩
        go_simp
        with_reducible rfl
       rotate_left
       ·simp only [Act.put, List.setIfInBounds_toArray, List.set_cons_zero, List.set_cons_succ, i64_w, i32_w]
        rfl
       refine take_ (i := 6) (N := some 20) (v := ?_) (a' := ?_) #[true, true, true, false, true, true, true, false, true, true, false, false, false, false, false] rfl rfl (take_ofW HT_.out HW_.out (by kernel_rfl)) (fun _ _ _ h => h) (Or.inl ⟨by rfl, ?_⟩) hHeld ?_ ?_
       rotate_left
       ·rintro w' ⟨s0, s1, s2⟩
        go_simp
        with_reducible rfl
       rotate_left
       ·simp only [Act.put, List.setIfInBounds_toArray, List.set_cons_zero, List.set_cons_succ, i64_w, i32_w]
        rfl
       refine take_ (i := 10) (N := some 24) (v := ?_) (a' := ?_) #[true, true, true, false, true, true, true, false, true, true, true, false, false, false, false] rfl rfl (take_ofW HT_.out HW_.out (by kernel_rfl)) (fun _ _ _ h => h) (Or.inl ⟨by rfl, ?_⟩) hHeld ?_ ?_
       rotate_left
       ·rintro w' ⟨s0, s1, s2⟩
        go_simp
        with_reducible rfl
       rotate_left
       ·simp only [Act.put, List.setIfInBounds_toArray, List.set_cons_zero, List.set_cons_succ, i64_w, i32_w]
        rfl
       refine join_ (σ := Value × Value × Value × Nat) 1 #[true, true, true, true, true, true, true, true, true, true, true, true, true, true, false] (fun s_ => [(17, s_.1), (21, s_.2.1), (25, s_.2.2.1), (5, .pointer (some ⟨s_.2.2.2, 0, none⟩)), (26, .agg #[s_.1, s_.2.1, s_.2.2.1])]) (fun s_ w' => (w'.cell? ad167 = some (.string (rdOf ByteArray.empty t164 0)) ∧ w'.cell? ⟨ad167.block, ad167.off + 1, none⟩ = some (.string (rdOf ByteArray.empty t164 1)) ∧ w'.cell? ⟨ad167.block, ad167.off + 2, none⟩ = some (.string (rdOf ByteArray.empty t164 2))) ∧ (Kd.R Kd.string 9 w' w.heap.size (fun _ => True) (.slice (some ad167) t164.length co38) t164) ∧ (Kd.R (Kd.int .i64) 3 w' w.heap.size (fun k_ => some k_ ≠ (s_.2.1 : Value).ownBlock ∧ some k_ ≠ (s_.2.2.1 : Value).ownBlock) s_.1 t168) ∧ (Kd.R (Kd.int .i64) 3 w' w.heap.size (fun k_ => some k_ ≠ (s_.1 : Value).ownBlock ∧ some k_ ≠ (s_.2.2.1 : Value).ownBlock) s_.2.1 t172) ∧ (Kd.R (Kd.int .i64) 3 w' w.heap.size (fun k_ => some k_ ≠ (s_.1 : Value).ownBlock ∧ some k_ ≠ (s_.2.1 : Value).ownBlock) s_.2.2.1 t176) ∧ (w'.heap[gb163]? = some (.cells #[.slice none 0 0, .slice none 0 0, .slice none 0 0] 39 (0, 0))) ∧ (w'.heap[s_.2.2.2]? = some (.cells #[.slice none 0 0, .slice none 0 0, .slice none 0 0] 39 (0, 0))) ∧ (w.heap.size ≤ s_.2.2.2) ∧ (w.heap.size ≤ s_.2.2.2) ∧ (gb163 ≠ s_.2.2.2) ∧ (s_.2.2.2 ≠ gb163) ∧ (Below w.heap.size w w')) ?_ ?_
       rotate_left
       ·intro hCont
        refine two_ (i := 3) (j := 13) (Ni := some 17) (Nj := some 5) #[true, true, true, true, true, true, true, false, true, true, true, false, false, false, false] #[true, true, true, false, true, true, true, false, true, true, true, false, false, true, false] rfl rfl rfl rfl (two_of HT_.out (by kernel_rfl)) (by decide) (by decide) (fun K hK => ?_) (fun K hK => ?_)
        ·skip
         refine goes_ Try.func82 (by kernel_rfl) rfl #[.string (rdOf ByteArray.empty t164 0)] (by rfl) rfl rfl Bb_4 ?_
         with_reducible refine (impl_uncommas.calls k (rdOf ByteArray.empty t164 0) t168 _ A5.out).mono ?_
         rintro e w40 ⟨v169, rfl, ho0, hb⟩
         have HS0_ := (hb.cell (World.block_lt_of_cell? _ _ (hHeld.1))).trans (hHeld.1)
         have HS1_ := (hb.cell (World.block_lt_of_cell? _ _ (hHeld.2.1))).trans (hHeld.2.1)
         have HS2_ := (hb.cell (World.block_lt_of_cell? _ _ (hHeld.2.2))).trans (hHeld.2.2)
         refine ⟨_, rfl, ?_⟩
         have n0_ := Aside0.mk (Kd.R_below Bb_6 hb)
         have n1_ := Aside0.mk (Kd.R_lower ho0 (below_size Bb_0))
         have n2_ := Aside0.mk (blk_below (g := gb163) (o := .cells #[.slice none 0 0, .slice none 0 0, .slice none 0 0] 39 (0, 0)) Bb_2 hb)
         have n3_ := Aside0.mk (below_step Bb_0 hb)
         clear HO166
         clear BK163
         clear HB
         have HO166 := n0_
         have HO170 := n1_
         have BK163 := n2_
         have HB := n3_
         clear n0_ n1_ n2_ n3_
         (try clear hb)
         (try clear hb2)
         (try clear hk)
         (try clear hi)
         (try clear ho0)
         refine hK.out _ _ ⟨HS0_, HS1_, HS2_⟩ (fun hHeld => ?_)
         clear hK K
         refine norm_ (a' := ?_) ?_ ?_
         rotate_left
         ·show Act.put _ (some 17) _ = _
          simp only [Act.put, List.setIfInBounds_toArray, List.set_cons_zero, List.set_cons_succ, i64_w, i32_w]
          rfl
         refine two_ (i := 7) (j := 13) (Ni := some 21) (Nj := some 5) #[true, true, true, true, true, true, true, true, true, true, true, false, false, false, false] #[true, true, true, true, true, true, true, false, true, true, true, false, false, true, false] rfl rfl rfl rfl (two_of HT_.out (by kernel_rfl)) (by decide) (by decide) (fun K hK => ?_) (fun K hK => ?_)
         ·skip
          refine goes_ Try.func82 (by kernel_rfl) rfl #[.string (rdOf ByteArray.empty t164 1)] (by rfl) rfl rfl Bb_4 ?_
          with_reducible refine (impl_uncommas.calls k (rdOf ByteArray.empty t164 1) t172 _ A7.out).mono ?_
          rintro e w41 ⟨v173, rfl, ho0, hb⟩
          have HS0_ := (hb.cell (World.block_lt_of_cell? _ _ (hHeld.1))).trans (hHeld.1)
          have HS1_ := (hb.cell (World.block_lt_of_cell? _ _ (hHeld.2.1))).trans (hHeld.2.1)
          have HS2_ := (hb.cell (World.block_lt_of_cell? _ _ (hHeld.2.2))).trans (hHeld.2.2)
          refine ⟨_, rfl, ?_⟩
          have n0_ := Aside0.mk (Kd.R_below Bb_6 hb)
          have n1_ := Aside0.mk (Kd.R_elder' Bb_7 (Kd.R_base ho0) hb)
          have n2_ := Aside0.mk (Kd.R_lower (Kd.R_new' ho0 (Kd.R_lt Bb_7)) (below_size Bb_0))
          have n3_ := Aside0.mk (blk_below (g := gb163) (o := .cells #[.slice none 0 0, .slice none 0 0, .slice none 0 0] 39 (0, 0)) Bb_2 hb)
          have n4_ := Aside0.mk (below_step Bb_0 hb)
          clear HO166
          clear HO170
          clear BK163
          clear HB
          have HO166 := n0_
          have HO170 := n1_
          have HO174 := n2_
          have BK163 := n3_
          have HB := n4_
          clear n0_ n1_ n2_ n3_ n4_
          (try clear hb)
          (try clear hb2)
          (try clear hk)
          (try clear hi)
          (try clear ho0)
          refine hK.out _ _ ⟨HS0_, HS1_, HS2_⟩ (fun hHeld => ?_)
          clear hK K
          refine norm_ (a' := ?_) ?_ ?_
          rotate_left
          ·show Act.put _ (some 21) _ = _
           simp only [Act.put, List.setIfInBounds_toArray, List.set_cons_zero, List.set_cons_succ, i64_w, i32_w]
           rfl
          refine two_ (i := 11) (j := 13) (Ni := some 25) (Nj := some 5) #[true, true, true, true, true, true, true, true, true, true, true, true, false, false, false] #[true, true, true, true, true, true, true, true, true, true, true, false, false, true, false] rfl rfl rfl rfl (two_of HT_.out (by kernel_rfl)) (by decide) (by decide) (fun K hK => ?_) (fun K hK => ?_)
          ·skip
           refine goes_ Try.func82 (by kernel_rfl) rfl #[.string (rdOf ByteArray.empty t164 2)] (by rfl) rfl rfl Bb_4 ?_
           with_reducible refine (impl_uncommas.calls k (rdOf ByteArray.empty t164 2) t176 _ A9.out).mono ?_
           rintro e w42 ⟨v177, rfl, ho0, hb⟩
           have HS0_ := (hb.cell (World.block_lt_of_cell? _ _ (hHeld.1))).trans (hHeld.1)
           have HS1_ := (hb.cell (World.block_lt_of_cell? _ _ (hHeld.2.1))).trans (hHeld.2.1)
           have HS2_ := (hb.cell (World.block_lt_of_cell? _ _ (hHeld.2.2))).trans (hHeld.2.2)
           refine ⟨_, rfl, ?_⟩
           have n0_ := Aside0.mk (Kd.R_below Bb_6 hb)
           have n1_ := Aside0.mk (Kd.R_elder' Bb_7 (Kd.R_base ho0) hb)
           have n2_ := Aside0.mk (Kd.R_elder' Bb_9 (Kd.R_base ho0) hb)
           have n3_ := Aside0.mk (Kd.R_lower (Kd.R_new' (Kd.R_new' ho0 (Kd.R_lt Bb_7)) (Kd.R_lt Bb_9)) (below_size Bb_0))
           have n4_ := Aside0.mk (blk_below (g := gb163) (o := .cells #[.slice none 0 0, .slice none 0 0, .slice none 0 0] 39 (0, 0)) Bb_2 hb)
           have n5_ := Aside0.mk (below_step Bb_0 hb)
           clear HO166
           clear HO170
           clear HO174
           clear BK163
           clear HB
           have HO166 := n0_
           have HO170 := n1_
           have HO174 := n2_
           have HO178 := n3_
           have BK163 := n4_
           have HB := n5_
           clear n0_ n1_ n2_ n3_ n4_ n5_
           (try clear hb)
           (try clear hb2)
           (try clear hk)
           (try clear hi)
           (try clear ho0)
           obtain ⟨Ao43, co43, eo43⟩ := Kd.R_slice HO178.out
           (first | subst eo43 | (injection eo43 with f1_ f2_ f3_; have f4_ := f1_.symm; have f5_ := f3_.symm; clear f1_ f2_ f3_; subst f4_; subst f5_))
           obtain ⟨Ao44, co44, eo44⟩ := Kd.R_slice HO174.out
           (first | subst eo44 | (injection eo44 with f1_ f2_ f3_; have f4_ := f1_.symm; have f5_ := f3_.symm; clear f1_ f2_ f3_; subst f4_; subst f5_))
           obtain ⟨Ao45, co45, eo45⟩ := Kd.R_slice HO170.out
           (first | subst eo45 | (injection eo45 with f1_ f2_ f3_; have f4_ := f1_.symm; have f5_ := f3_.symm; clear f1_ f2_ f3_; subst f4_; subst f5_))
           refine hK.out _ _ ⟨HS0_, HS1_, HS2_⟩ (fun hHeld => ?_)
           clear hK K
           refine norm_ (a' := ?_) ?_ ?_
           rotate_left
           ·show Act.put _ (some 25) _ = _
            simp only [Act.put, List.setIfInBounds_toArray, List.set_cons_zero, List.set_cons_succ, i64_w, i32_w]
            rfl
           refine pure_ (i := 12) (N := some 26) (v := ?_) (a' := ?_) #[true, true, true, true, true, true, true, true, true, true, true, true, true, false, false] rfl rfl (any_of HT_.out (by kernel_rfl)) (fun _ _ _ h => h) (Or.inl ⟨by rfl, ?_⟩) ?_ ?_
           rotate_left
           ·intro w'
            go_simp
            with_reducible rfl
           rotate_left
           ·simp only [Act.put, List.setIfInBounds_toArray, List.set_cons_zero, List.set_cons_succ, i64_w, i32_w]
            rfl
           refine one_ (i := 13) (N := some 5) #[true, true, true, true, true, true, true, true, true, true, true, true, true, true, false] rfl rfl (one_of HT_.out (by kernel_rfl)) (by decide) (fun K hK => ?_)
           refine box_step ?hg (N := 5) ?hd (cs := #[.slice none 0 0, .slice none 0 0, .slice none 0 0]) (t := 39) ?hr ?_; (case hd => rfl); (case hg => rfl); (case hr => first | (go_simp; done) | (go_simp; rfl))
           intro gb179 hg w46 hbox hb
           have HS0_ := (hb.cell (World.block_lt_of_cell? _ _ (hHeld.1))).trans (hHeld.1)
           have HS1_ := (hb.cell (World.block_lt_of_cell? _ _ (hHeld.2.1))).trans (hHeld.2.1)
           have HS2_ := (hb.cell (World.block_lt_of_cell? _ _ (hHeld.2.2))).trans (hHeld.2.2)
           have n0_ := Aside0.mk (Kd.R_below Bb_6 hb)
           have n1_ := Aside0.mk (Kd.R_below Bb_7 hb)
           have n2_ := Aside0.mk (Kd.R_below Bb_9 hb)
           have n3_ := Aside0.mk (Kd.R_below Bb_30 hb)
           have n4_ := Aside0.mk (blk_below (g := gb163) (o := .cells #[.slice none 0 0, .slice none 0 0, .slice none 0 0] 39 (0, 0)) Bb_2 hb)
           have n5_ := Aside0.mk (below_step Bb_0 hb)
           have n6_ := Aside0.mk (hbox)
           have n7_ := Aside0.mk ((by rw [hg]; exact (below_size Bb_0) : w.heap.size ≤ gb179))
           have n8_ := Aside0.mk ((by rw [hg]; exact (below_size Bb_0) : w.heap.size ≤ gb179))
           have n9_ := Aside0.mk ((by rw [hg]; exact Nat.ne_of_lt (blk_lt (g := gb163) (o := .cells #[.slice none 0 0, .slice none 0 0, .slice none 0 0] 39 (0, 0)) Bb_2) : gb163 ≠ gb179))
           have n10_ := Aside0.mk ((by rw [hg]; exact Nat.ne_of_gt (blk_lt (g := gb163) (o := .cells #[.slice none 0 0, .slice none 0 0, .slice none 0 0] 39 (0, 0)) Bb_2) : gb179 ≠ gb163))
           clear HO166
           clear HO170
           clear HO174
           clear HO178
           clear BK163
           clear HB
           have HO166 := n0_
           have HO170 := n1_
           have HO174 := n2_
           have HO178 := n3_
           have BK163 := n4_
           have HB := n5_
           have BK179 := n6_
           have GW179 := n7_
           have GE179 := n8_
           have NB163_179 := n9_
           have NB179_163 := n10_
           clear n0_ n1_ n2_ n3_ n4_ n5_ n6_ n7_ n8_ n9_ n10_
           clear hb hbox hg
           refine hK.out _ _ ⟨HS0_, HS1_, HS2_⟩ (fun hHeld => ?_)
           clear hK K
           refine norm_ (a' := ?_) ?_ ?_
           rotate_left
           ·show Act.put _ (some 5) _ = _
            simp only [Act.put, List.setIfInBounds_toArray, List.set_cons_zero, List.set_cons_succ, i64_w, i32_w]
            rfl
           exact norm_ Bb_17 (hCont (.slice Ao45 t168.length co45, .slice Ao44 t172.length co44, .slice Ao43 t176.length co43, gb179) _ ⟨hHeld, Bb_6, Bb_11, Bb_12, Bb_13, Bb_2, Bb_8, GW179.out, GE179.out, NB163_179.out, NB179_163.out, Bb_1⟩)
          ·skip
           refine box_step ?hg (N := 5) ?hd (cs := #[.slice none 0 0, .slice none 0 0, .slice none 0 0]) (t := 39) ?hr ?_; (case hd => rfl); (case hg => rfl); (case hr => first | (go_simp; done) | (go_simp; rfl))
           intro gb179 hg w42 hbox hb
           have HS0_ := (hb.cell (World.block_lt_of_cell? _ _ (hHeld.1))).trans (hHeld.1)
           have HS1_ := (hb.cell (World.block_lt_of_cell? _ _ (hHeld.2.1))).trans (hHeld.2.1)
           have HS2_ := (hb.cell (World.block_lt_of_cell? _ _ (hHeld.2.2))).trans (hHeld.2.2)
           have n0_ := Aside0.mk (Kd.R_below Bb_6 hb)
           have n1_ := Aside0.mk (Kd.R_below Bb_7 hb)
           have n2_ := Aside0.mk (Kd.R_below Bb_9 hb)
           have n3_ := Aside0.mk (blk_below (g := gb163) (o := .cells #[.slice none 0 0, .slice none 0 0, .slice none 0 0] 39 (0, 0)) Bb_2 hb)
           have n4_ := Aside0.mk (below_step Bb_0 hb)
           have n5_ := Aside0.mk (hbox)
           have n6_ := Aside0.mk ((by rw [hg]; exact (below_size Bb_0) : w.heap.size ≤ gb179))
           have n7_ := Aside0.mk ((by rw [hg]; exact (below_size Bb_0) : w.heap.size ≤ gb179))
           have n8_ := Aside0.mk ((by rw [hg]; exact Nat.ne_of_lt (blk_lt (g := gb163) (o := .cells #[.slice none 0 0, .slice none 0 0, .slice none 0 0] 39 (0, 0)) Bb_2) : gb163 ≠ gb179))
           have n9_ := Aside0.mk ((by rw [hg]; exact Nat.ne_of_gt (blk_lt (g := gb163) (o := .cells #[.slice none 0 0, .slice none 0 0, .slice none 0 0] 39 (0, 0)) Bb_2) : gb179 ≠ gb163))
           clear HO166
           clear HO170
           clear HO174
           clear BK163
           clear HB
           have HO166 := n0_
           have HO170 := n1_
           have HO174 := n2_
           have BK163 := n3_
           have HB := n4_
           have BK179 := n5_
           have GW179 := n6_
           have GE179 := n7_
           have NB163_179 := n8_
           have NB179_163 := n9_
           clear n0_ n1_ n2_ n3_ n4_ n5_ n6_ n7_ n8_ n9_
           clear hb hbox hg
           refine hK.out _ _ ⟨HS0_, HS1_, HS2_⟩ (fun hHeld => ?_)
           clear hK K
           refine norm_ (a' := ?_) ?_ ?_
           rotate_left
           ·show Act.put _ (some 5) _ = _
            simp only [Act.put, List.setIfInBounds_toArray, List.set_cons_zero, List.set_cons_succ, i64_w, i32_w]
            rfl
           refine one_ (i := 11) (N := some 25) #[true, true, true, true, true, true, true, true, true, true, true, true, false, true, false] rfl rfl (one_of HT_.out (by kernel_rfl)) (by decide) (fun K hK => ?_)
           refine goes_ Try.func82 (by kernel_rfl) rfl #[.string (rdOf ByteArray.empty t164 2)] (by rfl) rfl rfl Bb_4 ?_
           with_reducible refine (impl_uncommas.calls k (rdOf ByteArray.empty t164 2) t176 _ A9.out).mono ?_
           rintro e w43 ⟨v177, rfl, ho0, hb⟩
           have HS0_ := (hb.cell (World.block_lt_of_cell? _ _ (hHeld.1))).trans (hHeld.1)
           have HS1_ := (hb.cell (World.block_lt_of_cell? _ _ (hHeld.2.1))).trans (hHeld.2.1)
           have HS2_ := (hb.cell (World.block_lt_of_cell? _ _ (hHeld.2.2))).trans (hHeld.2.2)
           refine ⟨_, rfl, ?_⟩
           have n0_ := Aside0.mk (Kd.R_below Bb_6 hb)
           have n1_ := Aside0.mk (Kd.R_elder' Bb_7 (Kd.R_base ho0) hb)
           have n2_ := Aside0.mk (Kd.R_elder' Bb_9 (Kd.R_base ho0) hb)
           have n3_ := Aside0.mk (Kd.R_lower (Kd.R_new' (Kd.R_new' ho0 (Kd.R_lt Bb_7)) (Kd.R_lt Bb_9)) (below_size Bb_1))
           have n4_ := Aside0.mk (blk_below (g := gb163) (o := .cells #[.slice none 0 0, .slice none 0 0, .slice none 0 0] 39 (0, 0)) Bb_2 hb)
           have n5_ := Aside0.mk (blk_below (g := gb179) (o := .cells #[.slice none 0 0, .slice none 0 0, .slice none 0 0] 39 (0, 0)) Bb_8 hb)
           have n6_ := Aside0.mk (below_step Bb_1 hb)
           clear HO166
           clear HO170
           clear HO174
           clear BK163
           clear BK179
           clear HB
           have HO166 := n0_
           have HO170 := n1_
           have HO174 := n2_
           have HO178 := n3_
           have BK163 := n4_
           have BK179 := n5_
           have HB := n6_
           clear n0_ n1_ n2_ n3_ n4_ n5_ n6_
           (try clear hb)
           (try clear hb2)
           (try clear hk)
           (try clear hi)
           (try clear ho0)
           obtain ⟨Ao44, co44, eo44⟩ := Kd.R_slice HO178.out
           (first | subst eo44 | (injection eo44 with f1_ f2_ f3_; have f4_ := f1_.symm; have f5_ := f3_.symm; clear f1_ f2_ f3_; subst f4_; subst f5_))
           obtain ⟨Ao45, co45, eo45⟩ := Kd.R_slice HO174.out
           (first | subst eo45 | (injection eo45 with f1_ f2_ f3_; have f4_ := f1_.symm; have f5_ := f3_.symm; clear f1_ f2_ f3_; subst f4_; subst f5_))
           obtain ⟨Ao46, co46, eo46⟩ := Kd.R_slice HO170.out
           (first | subst eo46 | (injection eo46 with f1_ f2_ f3_; have f4_ := f1_.symm; have f5_ := f3_.symm; clear f1_ f2_ f3_; subst f4_; subst f5_))
           refine hK.out _ _ ⟨HS0_, HS1_, HS2_⟩ (fun hHeld => ?_)
           clear hK K
           refine norm_ (a' := ?_) ?_ ?_
           rotate_left
           ·show Act.put _ (some 25) _ = _
            simp only [Act.put, List.setIfInBounds_toArray, List.set_cons_zero, List.set_cons_succ, i64_w, i32_w]
            rfl
           refine pure_ (i := 12) (N := some 26) (v := ?_) (a' := ?_) #[true, true, true, true, true, true, true, true, true, true, true, true, true, true, false] rfl rfl (any_of HT_.out (by kernel_rfl)) (fun _ _ _ h => h) (Or.inl ⟨by rfl, ?_⟩) ?_ ?_
           rotate_left
           ·intro w'
            go_simp
            with_reducible rfl
           rotate_left
           ·simp only [Act.put, List.setIfInBounds_toArray, List.set_cons_zero, List.set_cons_succ, i64_w, i32_w]
            rfl
           exact norm_ Bb_17 (hCont (.slice Ao46 t168.length co46, .slice Ao45 t172.length co45, .slice Ao44 t176.length co44, gb179) _ ⟨hHeld, Bb_6, Bb_11, Bb_12, Bb_13, Bb_2, Bb_8, GW179.out, GE179.out, NB163_179.out, NB179_163.out, Bb_1⟩)
         ·skip
          refine box_step ?hg (N := 5) ?hd (cs := #[.slice none 0 0, .slice none 0 0, .slice none 0 0]) (t := 39) ?hr ?_; (case hd => rfl); (case hg => rfl); (case hr => first | (go_simp; done) | (go_simp; rfl))
          intro gb179 hg w41 hbox hb
          have HS0_ := (hb.cell (World.block_lt_of_cell? _ _ (hHeld.1))).trans (hHeld.1)
          have HS1_ := (hb.cell (World.block_lt_of_cell? _ _ (hHeld.2.1))).trans (hHeld.2.1)
          have HS2_ := (hb.cell (World.block_lt_of_cell? _ _ (hHeld.2.2))).trans (hHeld.2.2)
          have n0_ := Aside0.mk (Kd.R_below Bb_6 hb)
          have n1_ := Aside0.mk (Kd.R_below Bb_7 hb)
          have n2_ := Aside0.mk (blk_below (g := gb163) (o := .cells #[.slice none 0 0, .slice none 0 0, .slice none 0 0] 39 (0, 0)) Bb_2 hb)
          have n3_ := Aside0.mk (below_step Bb_0 hb)
          have n4_ := Aside0.mk (hbox)
          have n5_ := Aside0.mk ((by rw [hg]; exact (below_size Bb_0) : w.heap.size ≤ gb179))
          have n6_ := Aside0.mk ((by rw [hg]; exact (below_size Bb_0) : w.heap.size ≤ gb179))
          have n7_ := Aside0.mk ((by rw [hg]; exact Nat.ne_of_lt (blk_lt (g := gb163) (o := .cells #[.slice none 0 0, .slice none 0 0, .slice none 0 0] 39 (0, 0)) Bb_2) : gb163 ≠ gb179))
          have n8_ := Aside0.mk ((by rw [hg]; exact Nat.ne_of_gt (blk_lt (g := gb163) (o := .cells #[.slice none 0 0, .slice none 0 0, .slice none 0 0] 39 (0, 0)) Bb_2) : gb179 ≠ gb163))
          clear HO166
          clear HO170
          clear BK163
          clear HB
          have HO166 := n0_
          have HO170 := n1_
          have BK163 := n2_
          have HB := n3_
          have BK179 := n4_
          have GW179 := n5_
          have GE179 := n6_
          have NB163_179 := n7_
          have NB179_163 := n8_
          clear n0_ n1_ n2_ n3_ n4_ n5_ n6_ n7_ n8_
          clear hb hbox hg
          refine hK.out _ _ ⟨HS0_, HS1_, HS2_⟩ (fun hHeld => ?_)
          clear hK K
          refine norm_ (a' := ?_) ?_ ?_
          rotate_left
          ·show Act.put _ (some 5) _ = _
           simp only [Act.put, List.setIfInBounds_toArray, List.set_cons_zero, List.set_cons_succ, i64_w, i32_w]
           rfl
          refine one_ (i := 7) (N := some 21) #[true, true, true, true, true, true, true, true, true, true, true, false, false, true, false] rfl rfl (one_of HT_.out (by kernel_rfl)) (by decide) (fun K hK => ?_)
          refine goes_ Try.func82 (by kernel_rfl) rfl #[.string (rdOf ByteArray.empty t164 1)] (by rfl) rfl rfl Bb_4 ?_
          with_reducible refine (impl_uncommas.calls k (rdOf ByteArray.empty t164 1) t172 _ A7.out).mono ?_
          rintro e w42 ⟨v173, rfl, ho0, hb⟩
          have HS0_ := (hb.cell (World.block_lt_of_cell? _ _ (hHeld.1))).trans (hHeld.1)
          have HS1_ := (hb.cell (World.block_lt_of_cell? _ _ (hHeld.2.1))).trans (hHeld.2.1)
          have HS2_ := (hb.cell (World.block_lt_of_cell? _ _ (hHeld.2.2))).trans (hHeld.2.2)
          refine ⟨_, rfl, ?_⟩
          have n0_ := Aside0.mk (Kd.R_below Bb_6 hb)
          have n1_ := Aside0.mk (Kd.R_elder' Bb_7 (Kd.R_base ho0) hb)
          have n2_ := Aside0.mk (Kd.R_lower (Kd.R_new' ho0 (Kd.R_lt Bb_7)) (below_size Bb_1))
          have n3_ := Aside0.mk (blk_below (g := gb163) (o := .cells #[.slice none 0 0, .slice none 0 0, .slice none 0 0] 39 (0, 0)) Bb_2 hb)
          have n4_ := Aside0.mk (blk_below (g := gb179) (o := .cells #[.slice none 0 0, .slice none 0 0, .slice none 0 0] 39 (0, 0)) Bb_8 hb)
          have n5_ := Aside0.mk (below_step Bb_1 hb)
          clear HO166
          clear HO170
          clear BK163
          clear BK179
          clear HB
          have HO166 := n0_
          have HO170 := n1_
          have HO174 := n2_
          have BK163 := n3_
          have BK179 := n4_
          have HB := n5_
          clear n0_ n1_ n2_ n3_ n4_ n5_
          (try clear hb)
          (try clear hb2)
          (try clear hk)
          (try clear hi)
          (try clear ho0)
          refine hK.out _ _ ⟨HS0_, HS1_, HS2_⟩ (fun hHeld => ?_)
          clear hK K
          refine norm_ (a' := ?_) ?_ ?_
          rotate_left
          ·show Act.put _ (some 21) _ = _
           simp only [Act.put, List.setIfInBounds_toArray, List.set_cons_zero, List.set_cons_succ, i64_w, i32_w]
           rfl
          refine one_ (i := 11) (N := some 25) #[true, true, true, true, true, true, true, true, true, true, true, true, false, true, false] rfl rfl (one_of HT_.out (by kernel_rfl)) (by decide) (fun K hK => ?_)
          refine goes_ Try.func82 (by kernel_rfl) rfl #[.string (rdOf ByteArray.empty t164 2)] (by rfl) rfl rfl Bb_4 ?_
          with_reducible refine (impl_uncommas.calls k (rdOf ByteArray.empty t164 2) t176 _ A9.out).mono ?_
          rintro e w43 ⟨v177, rfl, ho0, hb⟩
          have HS0_ := (hb.cell (World.block_lt_of_cell? _ _ (hHeld.1))).trans (hHeld.1)
          have HS1_ := (hb.cell (World.block_lt_of_cell? _ _ (hHeld.2.1))).trans (hHeld.2.1)
          have HS2_ := (hb.cell (World.block_lt_of_cell? _ _ (hHeld.2.2))).trans (hHeld.2.2)
          refine ⟨_, rfl, ?_⟩
          have n0_ := Aside0.mk (Kd.R_below Bb_6 hb)
          have n1_ := Aside0.mk (Kd.R_elder' Bb_7 (Kd.R_base ho0) hb)
          have n2_ := Aside0.mk (Kd.R_elder' Bb_9 (Kd.R_base ho0) hb)
          have n3_ := Aside0.mk (Kd.R_lower (Kd.R_new' (Kd.R_new' ho0 (Kd.R_lt Bb_7)) (Kd.R_lt Bb_9)) (below_size Bb_1))
          have n4_ := Aside0.mk (blk_below (g := gb163) (o := .cells #[.slice none 0 0, .slice none 0 0, .slice none 0 0] 39 (0, 0)) Bb_2 hb)
          have n5_ := Aside0.mk (blk_below (g := gb179) (o := .cells #[.slice none 0 0, .slice none 0 0, .slice none 0 0] 39 (0, 0)) Bb_8 hb)
          have n6_ := Aside0.mk (below_step Bb_1 hb)
          clear HO166
          clear HO170
          clear HO174
          clear BK163
          clear BK179
          clear HB
          have HO166 := n0_
          have HO170 := n1_
          have HO174 := n2_
          have HO178 := n3_
          have BK163 := n4_
          have BK179 := n5_
          have HB := n6_
          clear n0_ n1_ n2_ n3_ n4_ n5_ n6_
          (try clear hb)
          (try clear hb2)
          (try clear hk)
          (try clear hi)
          (try clear ho0)
          obtain ⟨Ao44, co44, eo44⟩ := Kd.R_slice HO178.out
          (first | subst eo44 | (injection eo44 with f1_ f2_ f3_; have f4_ := f1_.symm; have f5_ := f3_.symm; clear f1_ f2_ f3_; subst f4_; subst f5_))
          obtain ⟨Ao45, co45, eo45⟩ := Kd.R_slice HO174.out
          (first | subst eo45 | (injection eo45 with f1_ f2_ f3_; have f4_ := f1_.symm; have f5_ := f3_.symm; clear f1_ f2_ f3_; subst f4_; subst f5_))
          obtain ⟨Ao46, co46, eo46⟩ := Kd.R_slice HO170.out
          (first | subst eo46 | (injection eo46 with f1_ f2_ f3_; have f4_ := f1_.symm; have f5_ := f3_.symm; clear f1_ f2_ f3_; subst f4_; subst f5_))
          refine hK.out _ _ ⟨HS0_, HS1_, HS2_⟩ (fun hHeld => ?_)
          clear hK K
          refine norm_ (a' := ?_) ?_ ?_
          rotate_left
          ·show Act.put _ (some 25) _ = _
           simp only [Act.put, List.setIfInBounds_toArray, List.set_cons_zero, List.set_cons_succ, i64_w, i32_w]
           rfl
          refine pure_ (i := 12) (N := some 26) (v := ?_) (a' := ?_) #[true, true, true, true, true, true, true, true, true, true, true, true, true, true, false] rfl rfl (any_of HT_.out (by kernel_rfl)) (fun _ _ _ h => h) (Or.inl ⟨by rfl, ?_⟩) ?_ ?_
          rotate_left
          ·intro w'
           go_simp
           with_reducible rfl
          rotate_left
          ·simp only [Act.put, List.setIfInBounds_toArray, List.set_cons_zero, List.set_cons_succ, i64_w, i32_w]
           rfl
          exact norm_ Bb_17 (hCont (.slice Ao46 t168.length co46, .slice Ao45 t172.length co45, .slice Ao44 t176.length co44, gb179) _ ⟨hHeld, Bb_6, Bb_11, Bb_12, Bb_13, Bb_2, Bb_8, GW179.out, GE179.out, NB163_179.out, NB179_163.out, Bb_1⟩)
        ·skip
         refine box_step ?hg (N := 5) ?hd (cs := #[.slice none 0 0, .slice none 0 0, .slice none 0 0]) (t := 39) ?hr ?_; (case hd => rfl); (case hg => rfl); (case hr => first | (go_simp; done) | (go_simp; rfl))
         intro gb179 hg w40 hbox hb
         have HS0_ := (hb.cell (World.block_lt_of_cell? _ _ (hHeld.1))).trans (hHeld.1)
         have HS1_ := (hb.cell (World.block_lt_of_cell? _ _ (hHeld.2.1))).trans (hHeld.2.1)
         have HS2_ := (hb.cell (World.block_lt_of_cell? _ _ (hHeld.2.2))).trans (hHeld.2.2)
         have n0_ := Aside0.mk (Kd.R_below Bb_6 hb)
         have n1_ := Aside0.mk (blk_below (g := gb163) (o := .cells #[.slice none 0 0, .slice none 0 0, .slice none 0 0] 39 (0, 0)) Bb_2 hb)
         have n2_ := Aside0.mk (below_step Bb_0 hb)
         have n3_ := Aside0.mk (hbox)
         have n4_ := Aside0.mk ((by rw [hg]; exact (below_size Bb_0) : w.heap.size ≤ gb179))
         have n5_ := Aside0.mk ((by rw [hg]; exact (below_size Bb_0) : w.heap.size ≤ gb179))
         have n6_ := Aside0.mk ((by rw [hg]; exact Nat.ne_of_lt (blk_lt (g := gb163) (o := .cells #[.slice none 0 0, .slice none 0 0, .slice none 0 0] 39 (0, 0)) Bb_2) : gb163 ≠ gb179))
         have n7_ := Aside0.mk ((by rw [hg]; exact Nat.ne_of_gt (blk_lt (g := gb163) (o := .cells #[.slice none 0 0, .slice none 0 0, .slice none 0 0] 39 (0, 0)) Bb_2) : gb179 ≠ gb163))
         clear HO166
         clear BK163
         clear HB
         have HO166 := n0_
         have BK163 := n1_
         have HB := n2_
         have BK179 := n3_
         have GW179 := n4_
         have GE179 := n5_
         have NB163_179 := n6_
         have NB179_163 := n7_
         clear n0_ n1_ n2_ n3_ n4_ n5_ n6_ n7_
         clear hb hbox hg
         refine hK.out _ _ ⟨HS0_, HS1_, HS2_⟩ (fun hHeld => ?_)
         clear hK K
         refine norm_ (a' := ?_) ?_ ?_
         rotate_left
         ·show Act.put _ (some 5) _ = _
          simp only [Act.put, List.setIfInBounds_toArray, List.set_cons_zero, List.set_cons_succ, i64_w, i32_w]
          rfl
         refine one_ (i := 3) (N := some 17) #[true, true, true, true, true, true, true, false, true, true, true, false, false, true, false] rfl rfl (one_of HT_.out (by kernel_rfl)) (by decide) (fun K hK => ?_)
         refine goes_ Try.func82 (by kernel_rfl) rfl #[.string (rdOf ByteArray.empty t164 0)] (by rfl) rfl rfl Bb_4 ?_
         with_reducible refine (impl_uncommas.calls k (rdOf ByteArray.empty t164 0) t168 _ A5.out).mono ?_
         rintro e w41 ⟨v169, rfl, ho0, hb⟩
         have HS0_ := (hb.cell (World.block_lt_of_cell? _ _ (hHeld.1))).trans (hHeld.1)
         have HS1_ := (hb.cell (World.block_lt_of_cell? _ _ (hHeld.2.1))).trans (hHeld.2.1)
         have HS2_ := (hb.cell (World.block_lt_of_cell? _ _ (hHeld.2.2))).trans (hHeld.2.2)
         refine ⟨_, rfl, ?_⟩
         have n0_ := Aside0.mk (Kd.R_below Bb_6 hb)
         have n1_ := Aside0.mk (Kd.R_lower ho0 (below_size Bb_1))
         have n2_ := Aside0.mk (blk_below (g := gb163) (o := .cells #[.slice none 0 0, .slice none 0 0, .slice none 0 0] 39 (0, 0)) Bb_2 hb)
         have n3_ := Aside0.mk (blk_below (g := gb179) (o := .cells #[.slice none 0 0, .slice none 0 0, .slice none 0 0] 39 (0, 0)) Bb_8 hb)
         have n4_ := Aside0.mk (below_step Bb_1 hb)
         clear HO166
         clear BK163
         clear BK179
         clear HB
         have HO166 := n0_
         have HO170 := n1_
         have BK163 := n2_
         have BK179 := n3_
         have HB := n4_
         clear n0_ n1_ n2_ n3_ n4_
         (try clear hb)
         (try clear hb2)
         (try clear hk)
         (try clear hi)
         (try clear ho0)
         refine hK.out _ _ ⟨HS0_, HS1_, HS2_⟩ (fun hHeld => ?_)
         clear hK K
         refine norm_ (a' := ?_) ?_ ?_
         rotate_left
         ·show Act.put _ (some 17) _ = _
          simp only [Act.put, List.setIfInBounds_toArray, List.set_cons_zero, List.set_cons_succ, i64_w, i32_w]
          rfl
         refine one_ (i := 7) (N := some 21) #[true, true, true, true, true, true, true, true, true, true, true, false, false, true, false] rfl rfl (one_of HT_.out (by kernel_rfl)) (by decide) (fun K hK => ?_)
         refine goes_ Try.func82 (by kernel_rfl) rfl #[.string (rdOf ByteArray.empty t164 1)] (by rfl) rfl rfl Bb_4 ?_
         with_reducible refine (impl_uncommas.calls k (rdOf ByteArray.empty t164 1) t172 _ A7.out).mono ?_
         rintro e w42 ⟨v173, rfl, ho0, hb⟩
         have HS0_ := (hb.cell (World.block_lt_of_cell? _ _ (hHeld.1))).trans (hHeld.1)
         have HS1_ := (hb.cell (World.block_lt_of_cell? _ _ (hHeld.2.1))).trans (hHeld.2.1)
         have HS2_ := (hb.cell (World.block_lt_of_cell? _ _ (hHeld.2.2))).trans (hHeld.2.2)
         refine ⟨_, rfl, ?_⟩
         have n0_ := Aside0.mk (Kd.R_below Bb_6 hb)
         have n1_ := Aside0.mk (Kd.R_elder' Bb_7 (Kd.R_base ho0) hb)
         have n2_ := Aside0.mk (Kd.R_lower (Kd.R_new' ho0 (Kd.R_lt Bb_7)) (below_size Bb_1))
         have n3_ := Aside0.mk (blk_below (g := gb163) (o := .cells #[.slice none 0 0, .slice none 0 0, .slice none 0 0] 39 (0, 0)) Bb_2 hb)
         have n4_ := Aside0.mk (blk_below (g := gb179) (o := .cells #[.slice none 0 0, .slice none 0 0, .slice none 0 0] 39 (0, 0)) Bb_8 hb)
         have n5_ := Aside0.mk (below_step Bb_1 hb)
         clear HO166
         clear HO170
         clear BK163
         clear BK179
         clear HB
         have HO166 := n0_
         have HO170 := n1_
         have HO174 := n2_
         have BK163 := n3_
         have BK179 := n4_
         have HB := n5_
         clear n0_ n1_ n2_ n3_ n4_ n5_
         (try clear hb)
         (try clear hb2)
         (try clear hk)
         (try clear hi)
         (try clear ho0)
         refine hK.out _ _ ⟨HS0_, HS1_, HS2_⟩ (fun hHeld => ?_)
         clear hK K
         refine norm_ (a' := ?_) ?_ ?_
         rotate_left
         ·show Act.put _ (some 21) _ = _
          simp only [Act.put, List.setIfInBounds_toArray, List.set_cons_zero, List.set_cons_succ, i64_w, i32_w]
          rfl
         refine one_ (i := 11) (N := some 25) #[true, true, true, true, true, true, true, true, true, true, true, true, false, true, false] rfl rfl (one_of HT_.out (by kernel_rfl)) (by decide) (fun K hK => ?_)
         refine goes_ Try.func82 (by kernel_rfl) rfl #[.string (rdOf ByteArray.empty t164 2)] (by rfl) rfl rfl Bb_4 ?_
         with_reducible refine (impl_uncommas.calls k (rdOf ByteArray.empty t164 2) t176 _ A9.out).mono ?_
         rintro e w43 ⟨v177, rfl, ho0, hb⟩
         have HS0_ := (hb.cell (World.block_lt_of_cell? _ _ (hHeld.1))).trans (hHeld.1)
         have HS1_ := (hb.cell (World.block_lt_of_cell? _ _ (hHeld.2.1))).trans (hHeld.2.1)
         have HS2_ := (hb.cell (World.block_lt_of_cell? _ _ (hHeld.2.2))).trans (hHeld.2.2)
         refine ⟨_, rfl, ?_⟩
         have n0_ := Aside0.mk (Kd.R_below Bb_6 hb)
         have n1_ := Aside0.mk (Kd.R_elder' Bb_7 (Kd.R_base ho0) hb)
         have n2_ := Aside0.mk (Kd.R_elder' Bb_9 (Kd.R_base ho0) hb)
         have n3_ := Aside0.mk (Kd.R_lower (Kd.R_new' (Kd.R_new' ho0 (Kd.R_lt Bb_7)) (Kd.R_lt Bb_9)) (below_size Bb_1))
         have n4_ := Aside0.mk (blk_below (g := gb163) (o := .cells #[.slice none 0 0, .slice none 0 0, .slice none 0 0] 39 (0, 0)) Bb_2 hb)
         have n5_ := Aside0.mk (blk_below (g := gb179) (o := .cells #[.slice none 0 0, .slice none 0 0, .slice none 0 0] 39 (0, 0)) Bb_8 hb)
         have n6_ := Aside0.mk (below_step Bb_1 hb)
         clear HO166
         clear HO170
         clear HO174
         clear BK163
         clear BK179
         clear HB
         have HO166 := n0_
         have HO170 := n1_
         have HO174 := n2_
         have HO178 := n3_
         have BK163 := n4_
         have BK179 := n5_
         have HB := n6_
         clear n0_ n1_ n2_ n3_ n4_ n5_ n6_
         (try clear hb)
         (try clear hb2)
         (try clear hk)
         (try clear hi)
         (try clear ho0)
         obtain ⟨Ao44, co44, eo44⟩ := Kd.R_slice HO178.out
         (first | subst eo44 | (injection eo44 with f1_ f2_ f3_; have f4_ := f1_.symm; have f5_ := f3_.symm; clear f1_ f2_ f3_; subst f4_; subst f5_))
         obtain ⟨Ao45, co45, eo45⟩ := Kd.R_slice HO174.out
         (first | subst eo45 | (injection eo45 with f1_ f2_ f3_; have f4_ := f1_.symm; have f5_ := f3_.symm; clear f1_ f2_ f3_; subst f4_; subst f5_))
         obtain ⟨Ao46, co46, eo46⟩ := Kd.R_slice HO170.out
         (first | subst eo46 | (injection eo46 with f1_ f2_ f3_; have f4_ := f1_.symm; have f5_ := f3_.symm; clear f1_ f2_ f3_; subst f4_; subst f5_))
         refine hK.out _ _ ⟨HS0_, HS1_, HS2_⟩ (fun hHeld => ?_)
         clear hK K
         refine norm_ (a' := ?_) ?_ ?_
         rotate_left
         ·show Act.put _ (some 25) _ = _
          simp only [Act.put, List.setIfInBounds_toArray, List.set_cons_zero, List.set_cons_succ, i64_w, i32_w]
          rfl
         refine pure_ (i := 12) (N := some 26) (v := ?_) (a' := ?_) #[true, true, true, true, true, true, true, true, true, true, true, true, true, true, false] rfl rfl (any_of HT_.out (by kernel_rfl)) (fun _ _ _ h => h) (Or.inl ⟨by rfl, ?_⟩) ?_ ?_
         rotate_left
         ·intro w'
          go_simp
          with_reducible rfl
         rotate_left
         ·simp only [Act.put, List.setIfInBounds_toArray, List.set_cons_zero, List.set_cons_succ, i64_w, i32_w]
          rfl
         exact norm_ Bb_17 (hCont (.slice Ao46 t168.length co46, .slice Ao45 t172.length co45, .slice Ao44 t176.length co44, gb179) _ ⟨hHeld, Bb_6, Bb_11, Bb_12, Bb_13, Bb_2, Bb_8, GW179.out, GE179.out, NB163_179.out, NB179_163.out, Bb_1⟩)
       rintro ⟨v169, v173, v177, gb179⟩ w47 ⟨hS_, h0_, h1_, h2_, h3_, h4_, h5_, h6_, h7_, h8_, h9_, h10_⟩
       have n0_ : Aside0 (Kd.R Kd.string 9 w47 w.heap.size (fun _ => True) (.slice (some ad167) t164.length co38) t164) := ⟨h0_⟩
       have n1_ : Aside0 (Kd.R (Kd.int .i64) 3 w47 w.heap.size (fun k_ => some k_ ≠ (v173 : Value).ownBlock ∧ some k_ ≠ (v177 : Value).ownBlock) v169 t168) := ⟨h1_⟩
       have n2_ : Aside0 (Kd.R (Kd.int .i64) 3 w47 w.heap.size (fun k_ => some k_ ≠ (v169 : Value).ownBlock ∧ some k_ ≠ (v177 : Value).ownBlock) v173 t172) := ⟨h2_⟩
       have n3_ : Aside0 (Kd.R (Kd.int .i64) 3 w47 w.heap.size (fun k_ => some k_ ≠ (v169 : Value).ownBlock ∧ some k_ ≠ (v173 : Value).ownBlock) v177 t176) := ⟨h3_⟩
       have n4_ : Aside0 (w47.heap[gb163]? = some (.cells #[.slice none 0 0, .slice none 0 0, .slice none 0 0] 39 (0, 0))) := ⟨h4_⟩
       have n5_ : Aside0 (w47.heap[gb179]? = some (.cells #[.slice none 0 0, .slice none 0 0, .slice none 0 0] 39 (0, 0))) := ⟨h5_⟩
       have n6_ : Aside0 (w.heap.size ≤ gb179) := ⟨h6_⟩
       have n7_ : Aside0 (w.heap.size ≤ gb179) := ⟨h7_⟩
       have n8_ : Aside0 (gb163 ≠ gb179) := ⟨h8_⟩
       have n9_ : Aside0 (gb179 ≠ gb163) := ⟨h9_⟩
       have n10_ : Aside0 (Below w.heap.size w w47) := ⟨h10_⟩
       clear HO166
       clear BK163
       clear HB
       clear h0_ h1_ h2_ h3_ h4_ h5_ h6_ h7_ h8_ h9_ h10_
       have HO166 := n0_
       have HO170 := n1_
       have HO174 := n2_
       have HO178 := n3_
       have BK163 := n4_
       have BK179 := n5_
       have GW179 := n6_
       have GE179 := n7_
       have NB163_179 := n8_
       have NB179_163 := n9_
       have HB := n10_
       clear n0_ n1_ n2_ n3_ n4_ n5_ n6_ n7_ n8_ n9_ n10_
       have hHeld : w47.cell? ad167 = some (.string (rdOf ByteArray.empty t164 0)) ∧ w47.cell? ⟨ad167.block, ad167.off + 1, none⟩ = some (.string (rdOf ByteArray.empty t164 1)) ∧ w47.cell? ⟨ad167.block, ad167.off + 2, none⟩ = some (.string (rdOf ByteArray.empty t164 2)) := hS_
       obtain ⟨Ao48, co48, eo48⟩ := Kd.R_slice HO178.out
       (first | subst eo48 | (injection eo48 with f1_ f2_ f3_; have f4_ := f1_.symm; have f5_ := f3_.symm; clear f1_ f2_ f3_; subst f4_; subst f5_))
       obtain ⟨Ao49, co49, eo49⟩ := Kd.R_slice HO174.out
       (first | subst eo49 | (injection eo49 with f1_ f2_ f3_; have f4_ := f1_.symm; have f5_ := f3_.symm; clear f1_ f2_ f3_; subst f4_; subst f5_))
       obtain ⟨Ao50, co50, eo50⟩ := Kd.R_slice HO170.out
       (first | subst eo50 | (injection eo50 with f1_ f2_ f3_; have f4_ := f1_.symm; have f5_ := f3_.symm; clear f1_ f2_ f3_; subst f4_; subst f5_))
       refine norm_ (a' := ?_) ?_ ?_
       rotate_left
       ·simp only [putAll, Act.put, List.setIfInBounds_toArray, List.set_cons_zero, List.set_cons_succ]
        rfl
       refine one_ (i := 14) (N := none) #[true, true, true, true, true, true, true, true, true, true, true, true, true, true, true] rfl rfl (one_of HT_.out (by kernel_rfl)) (by decide) (fun K hK => ?_)
       have hs51 : w47.cell? ⟨gb179, 0, none⟩ = some (.slice none 0 0) := (blk_cell BK179.out 0).trans rfl
       have hfs51 := blk_frozen BK179.out 0
       have hns51_0 := NB163_179.out
       have hms51_0 := NB179_163.out
       have hs52 : w47.cell? ⟨gb179, 1, none⟩ = some (.slice none 0 0) := (blk_cell BK179.out 1).trans rfl
       have hfs52 := blk_frozen BK179.out 1
       have hns52_0 := NB163_179.out
       have hms52_0 := NB179_163.out
       have hs53 : w47.cell? ⟨gb179, 2, none⟩ = some (.slice none 0 0) := (blk_cell BK179.out 2).trans rfl
       have hfs53 := blk_frozen BK179.out 2
       have hns53_0 := NB163_179.out
       have hms53_0 := NB179_163.out
       refine skip_ (w1 := ?_) (by rfl) rfl ?_ ?_
       rotate_left
       ·go_simp
        rfl
       refine hK.out _ _ ⟨((cell_far (p := ⟨gb179, _, none⟩) Bb_3 _).trans (((cell_far (p := ⟨gb179, _, none⟩) Bb_3 _).trans (((cell_far (p := ⟨gb179, _, none⟩) Bb_3 _).trans (hHeld.1)))))), ((cell_far (p := ⟨gb179, _, none⟩) Bb_3 _).trans (((cell_far (p := ⟨gb179, _, none⟩) Bb_3 _).trans (((cell_far (p := ⟨gb179, _, none⟩) Bb_3 _).trans (hHeld.2.1)))))), ((cell_far (p := ⟨gb179, _, none⟩) Bb_3 _).trans (((cell_far (p := ⟨gb179, _, none⟩) Bb_3 _).trans (((cell_far (p := ⟨gb179, _, none⟩) Bb_3 _).trans (hHeld.2.2))))))⟩ (fun hHeld => ?_)
       clear hK K
       refine done_ (done_of HT_.out (by kernel_rfl)) ?_
       have hnb54 := NB179_163.out
       have hnc54 := NB163_179.out
       have hcz55_0 : w47.cell? ⟨gb179, 0, none⟩ = some (.slice none 0 0) := (blk_cell BK179.out 0).trans rfl
       have hcz55_1 : w47.cell? ⟨gb179, 1, none⟩ = some (.slice none 0 0) := (blk_cell BK179.out 1).trans rfl
       have hcz55_2 : w47.cell? ⟨gb179, 2, none⟩ = some (.slice none 0 0) := (blk_cell BK179.out 2).trans rfl
       have hfz55_0 := blk_frozen BK179.out 0
       have hfz55_1 := blk_frozen BK179.out 1
       have hfz55_2 := blk_frozen BK179.out 2
       try go_wp2_with (first | ((with_reducible refine gate_callee (f := 23) rfl ?_); refine goesL_ (some 29) rfl rfl Try.func23 (by kernel_rfl) rfl #[.agg #[.slice Ao50 t168.length co50, .slice Ao49 t172.length co49, .slice Ao48 t176.length co48]] rfl Bb_4 ?_; (with_reducible refine (impl_LayoutText.calls k _ _ t168 _ _ t172 _ _ t176 t180 true _ ?side1 ?side2 ?side3 ?side4 ?side5 ?side6 A10.out).mono ?_); (case side1 => refine (Kd.R_reads' (e := 3) (base := w.heap.size) (ok := fun k_ => (some k_ ≠ (.slice Ao49 t172.length co49 : Value).ownBlock ∧ some k_ ≠ (.slice Ao48 t176.length co48 : Value).ownBlock)) (n := t168.length) (c := co50) ?_).2.2; exact Bb_22); (case side2 => exact (Kd.R_reads' HO170.out).2.1); (case side3 => refine (Kd.R_reads' (e := 3) (base := w.heap.size) (ok := fun k_ => (some k_ ≠ (.slice Ao50 t168.length co50 : Value).ownBlock ∧ some k_ ≠ (.slice Ao48 t176.length co48 : Value).ownBlock)) (n := t172.length) (c := co49) ?_).2.2; exact Bb_23); (case side4 => exact (Kd.R_reads' HO174.out).2.1); (case side5 => refine (Kd.R_reads' (e := 3) (base := w.heap.size) (ok := fun k_ => (some k_ ≠ (.slice Ao50 t168.length co50 : Value).ownBlock ∧ some k_ ≠ (.slice Ao49 t172.length co49 : Value).ownBlock)) (n := t176.length) (c := co48) ?_).2.2; exact Bb_24); (case side6 => exact (Kd.R_reads' HO178.out).2.1); rintro e w56 ⟨rfl, hb⟩; refine ⟨_, rfl, ?_⟩; have n0_ := Aside0.mk (Kd.R_below (by (with_reducible repeat (first | apply Kd.R_alloc | apply Kd.R_drewN | apply Kd.R_drew)); exact (Kd.R_mono (Kd.R_far (p := ⟨gb179, 2, none⟩) (Kd.R_far (p := ⟨gb179, 1, none⟩) (Kd.R_far (p := ⟨gb179, 0, none⟩) (Kd.R_types HO166.out BK179.out (by decide)) (fun _ hk => hk.2) (.slice Ao50 t168.length co50)) (fun _ hk => hk.2) (.slice Ao49 t172.length co49)) (fun _ hk => hk.2) (.slice Ao48 t176.length co48)) (fun _ h_ => h_.1))) hb); have n1_ := Aside0.mk (Kd.R_below Bb_22 hb); have n2_ := Aside0.mk (Kd.R_below Bb_23 hb); have n3_ := Aside0.mk (Kd.R_below Bb_24 hb); have n4_ := Aside0.mk (blk_below (g := gb163) (o := .cells #[.slice none 0 0, .slice none 0 0, .slice none 0 0] 39 (0, 0)) Bb_16 hb); have n5_ := Aside0.mk (blk_below (g := gb179) (o := .cells #[.slice Ao50 t168.length co50, .slice Ao49 t172.length co49, .slice Ao48 t176.length co48] 39 (0, 0)) (by (with_reducible repeat (first | refine blk_drewN ?_ _ | refine blk_drew ?_ | refine blk_alloc ?_ _)); refine blk_put (cs := #[.slice Ao50 t168.length co50, .slice Ao49 t172.length co49, .slice none 0 0]) ?_ 2 _ rfl; (with_reducible repeat (first | refine blk_drewN ?_ _ | refine blk_drew ?_ | refine blk_alloc ?_ _)); refine blk_put (cs := #[.slice Ao50 t168.length co50, .slice none 0 0, .slice none 0 0]) ?_ 1 _ rfl; (with_reducible repeat (first | refine blk_drewN ?_ _ | refine blk_drew ?_ | refine blk_alloc ?_ _)); refine blk_put (cs := #[.slice none 0 0, .slice none 0 0, .slice none 0 0]) ?_ 0 _ rfl; (with_reducible repeat (first | refine blk_drewN ?_ _ | refine blk_drew ?_ | refine blk_alloc ?_ _)); exact BK179.out) hb); have n6_ := Aside0.mk (below_step Bb_1 hb); clear HO166; clear HO170; clear HO174; clear HO178; clear BK163; clear BK179; clear HB; have HO166 := n0_; have HO170 := n1_; have HO174 := n2_; have HO178 := n3_; have BK163 := n4_; have BK179 := n5_; have HB := n6_; clear n0_ n1_ n2_ n3_ n4_ n5_ n6_; (try clear hb); (try clear hb2); (try clear hk); (try clear hi); have hcz57_0 : w56.cell? ⟨gb163, 0, none⟩ = some (.slice none 0 0) := (blk_cell BK163.out 0).trans rfl; have hcz57_1 : w56.cell? ⟨gb163, 1, none⟩ = some (.slice none 0 0) := (blk_cell BK163.out 1).trans rfl; have hcz57_2 : w56.cell? ⟨gb163, 2, none⟩ = some (.slice none 0 0) := (blk_cell BK163.out 2).trans rfl; have hfz57_0 := blk_frozen BK163.out 0; have hfz57_1 := blk_frozen BK163.out 1; have hfz57_2 := blk_frozen BK163.out 2))
       refine bodyPost_ret (results_ct rfl _ _ gb163 39 #[.slice none 0 0, .slice none 0 0, .slice none 0 0] (0, 0) _ rfl Bb_14 Try.underlying39 rfl (by kernel_rfl)) rfl ?_
       exact ⟨_, _, _, by first | rfl | (simp [errW_none, errW_some] <;> rfl) | (simp [*, errW_none, errW_some] <;> rfl), by first | exact Kd.R_nil _ _ _ _ _ | exact Kd.N_nil _ _ _ _ _ | exact Kd.V_nil _ _ _ _ _ | exact Kd.Q_nil _ _ _ _ _ | exact Kd.S_nil _ _ _ _ _, by first | exact Kd.R_nil _ _ _ _ _ | exact Kd.N_nil _ _ _ _ _ | exact Kd.V_nil _ _ _ _ _ | exact Kd.Q_nil _ _ _ _ _ | exact Kd.S_nil _ _ _ _ _, by first | exact Kd.R_nil _ _ _ _ _ | exact Kd.N_nil _ _ _ _ _ | exact Kd.V_nil _ _ _ _ _ | exact Kd.Q_nil _ _ _ _ _ | exact Kd.S_nil _ _ _ _ _, by repeat (first | (with_reducible first | exact HB.out | apply below_alloc | apply pw_below_drewN | apply below_drew1 | refine below_set ?_ GE163.out | refine below_set ?_ GE179.out) | exact HB.out)⟩
     ·replace c11 := Bool.eq_false_iff.mpr c11
      subst c11
      have H1 : (some (([] : List Int), ([] : List Int), ([] : List Int), false)) = some (r1, r2, r3, r4) := by rw [if_neg (show ¬ (false = true) by decide)] at H; exact H
      clear H
      have H := H1
      clear H1
      simp only [Option.some.injEq, Prod.mk.injEq] at H
      obtain ⟨rfl, rfl, rfl, rfl⟩ := H
      go_enter Try.func24, Try.ntmps24
      try go_wp2_with (first | ((with_reducible refine gate_dst (N := 2) rfl ?_); refine box_event ?hg (N := 2) ?hd (cs := #[.slice none 0 0, .slice none 0 0, .slice none 0 0]) (t := 39) ?hr ?_; (case hd => rfl); (case hg => rfl); (case hr => first | (go_simp; done) | (go_simp; rfl)); intro gb163 hg w58 hbox hb; have n0_ := Aside0.mk (below_step Bb_5 hb); have n1_ := Aside0.mk (hbox); have n2_ := Aside0.mk ((by rw [hg]; exact (below_size Bb_5) : w.heap.size ≤ gb163)); have n3_ := Aside0.mk ((by rw [hg]; exact (below_size Bb_5) : w.heap.size ≤ gb163)); clear HB; have HB := n0_; have BK163 := n1_; have GW163 := n2_; have GE163 := n3_; clear n0_ n1_ n2_ n3_; clear hb hbox hg) | ((with_reducible refine gate_callee (f := 75) rfl ?_); refine goesL_ (some 9) rfl rfl Try.func75 (by kernel_rfl) rfl #[.string a0, .int .u8 47] rfl Bb_4 ?_; (with_reducible refine (impl_cut.calls k a0 47 t164 _ A2.out).mono ?_); rintro e w59 ⟨v165, rfl, ho0, hb⟩; refine ⟨_, rfl, ?_⟩; have n0_ := Aside0.mk (Kd.R_lower ho0 (below_size Bb_0)); have n1_ := Aside0.mk (blk_below (g := gb163) (o := .cells #[.slice none 0 0, .slice none 0 0, .slice none 0 0] 39 (0, 0)) Bb_2 hb); have n2_ := Aside0.mk (below_step Bb_0 hb); clear BK163; clear HB; have HO166 := n0_; have BK163 := n1_; have HB := n2_; clear n0_ n1_ n2_; (try clear hb); (try clear hb2); (try clear hk); (try clear hi); (try clear ho0); obtain ⟨Ao60, co60, eo60⟩ := Kd.R_slice HO166.out; subst eo60))
      have n0_ := Aside0.mk (Kd.R_drew HO166.out)
      have n1_ := Aside0.mk (blk_drew BK163.out)
      have n2_ := Aside0.mk (below_drew1 HB.out)
      clear HO166
      clear BK163
      clear HB
      have HO166 := n0_
      have BK163 := n1_
      have HB := n2_
      clear n0_ n1_ n2_
      have p167 : 0 ≤ (0 : Int) := (by omega)
      have q167 : 0 < (t164.length : Int) := of_decide_eq_true Bb_10
      obtain ⟨ad167, e167, hx167_0⟩ := Kd.at_string (Kd.R_reads' HO166.out).2.2 0 p167 q167
      cases e167
      have qi167 : (0 < t164.length) = True := eq_true (by omega)
      (try rw [show ((0 : Int)).toNat = 0 from rfl] at hx167_0)
      (try rw [Addr.add_zero'] at hx167_0)
      replace p167 := eq_true p167
      replace q167 := eq_true q167
      have p171 : 0 ≤ (1 : Int) := (by omega)
      have q171 : 1 < (t164.length : Int) := of_decide_eq_true Bb_10
      obtain ⟨ad171, e171, hx171_0⟩ := Kd.at_string (Kd.R_reads' HO166.out).2.2 1 p171 q171
      obtain rfl : ad167 = ad171 := (by injection e171)
      (try simp only [show (1 : Int).toNat = 1 from rfl, Nat.reduceMul, Nat.reduceEqDiff, Go.Addr.add, ↓reduceIte] at hx171_0)
      have qi171 : (1 < t164.length) = True := eq_true (by omega)
      (try rw [show ((1 : Int)).toNat = 1 from rfl] at hx171_0)
      replace p171 := eq_true p171
      replace q171 := eq_true q171
      have p175 : 0 ≤ (2 : Int) := (by omega)
      have q175 : 2 < (t164.length : Int) := of_decide_eq_true Bb_10
      obtain ⟨ad175, e175, hx175_0⟩ := Kd.at_string (Kd.R_reads' HO166.out).2.2 2 p175 q175
      obtain rfl : ad167 = ad175 := (by injection e175)
      (try simp only [show (2 : Int).toNat = 2 from rfl, Nat.reduceMul, Nat.reduceEqDiff, Go.Addr.add, ↓reduceIte] at hx175_0)
      have qi175 : (2 < t164.length) = True := eq_true (by omega)
      (try rw [show ((2 : Int)).toNat = 2 from rfl] at hx175_0)
      replace p175 := eq_true p175
      replace q175 := eq_true q175
      refine start_ (n := 15) (S := fun w' => w'.cell? ad167 = some (.string (rdOf ByteArray.empty t164 0)) ∧ w'.cell? ⟨ad167.block, ad167.off + 1, none⟩ = some (.string (rdOf ByteArray.empty t164 1)) ∧ w'.cell? ⟨ad167.block, ad167.off + 2, none⟩ = some (.string (rdOf ByteArray.empty t164 2))) (ds := []) #[false, false, false, false, false, false, false, false, false, false, false, false, false, false, false] (by kernel_rfl) rfl rfl ⟨hx167_0, hx171_0, hx175_0⟩ (fun hHeld => ?_); refine with_tabW impl_ReadLayout.tab4 impl_ReadLayout.bits4 (fun HT_ HW_ => ?_)
      generalize w59.drew = w61 at HO166 BK163 HB hx167_0 hx171_0 hx175_0 hHeld ⊢
      refine pure_ (i := 0) (N := some 14) (v := ?_) (a' := ?_) #[true, false, false, false, false, false, false, false, false, false, false, false, false, false, false] rfl rfl (any_of HT_.out (by kernel_rfl)) (fun _ _ _ h => h) (Or.inl ⟨by rfl, ?_⟩) ?_ ?_
      rotate_left
      ·intro w'
       go_simp
       with_reducible rfl
      rotate_left
      ·simp only [Act.put, List.setIfInBounds_toArray, List.set_cons_zero, List.set_cons_succ, i64_w, i32_w]
       rfl
      refine pure_ (i := 1) (N := some 15) (v := ?_) (a' := ?_) #[true, true, false, false, false, false, false, false, false, false, false, false, false, false, false] rfl rfl (any_of HT_.out (by kernel_rfl)) (fun _ _ _ h => h) (Or.inl ⟨by rfl, ?_⟩) ?_ ?_
      rotate_left
      ·intro w'
       go_simp
       with_reducible rfl
      rotate_left
      ·simp only [Act.put, List.setIfInBounds_toArray, List.set_cons_zero, List.set_cons_succ, i64_w, i32_w]
       rfl
      refine pure_ (i := 4) (N := some 18) (v := ?_) (a' := ?_) #[true, true, false, false, true, false, false, false, false, false, false, false, false, false, false] rfl rfl (any_of HT_.out (by kernel_rfl)) (fun _ _ _ h => h) (Or.inl ⟨by rfl, ?_⟩) ?_ ?_
      rotate_left
      ·intro w'
       go_simp
       with_reducible rfl
      rotate_left
      ·simp only [Act.put, List.setIfInBounds_toArray, List.set_cons_zero, List.set_cons_succ, i64_w, i32_w]
       rfl
      refine pure_ (i := 5) (N := some 19) (v := ?_) (a' := ?_) #[true, true, false, false, true, true, false, false, false, false, false, false, false, false, false] rfl rfl (any_of HT_.out (by kernel_rfl)) (fun _ _ _ h => h) (Or.inl ⟨by rfl, ?_⟩) ?_ ?_
      rotate_left
      ·intro w'
       go_simp
       with_reducible rfl
      rotate_left
      ·simp only [Act.put, List.setIfInBounds_toArray, List.set_cons_zero, List.set_cons_succ, i64_w, i32_w]
       rfl
      refine pure_ (i := 8) (N := some 22) (v := ?_) (a' := ?_) #[true, true, false, false, true, true, false, false, true, false, false, false, false, false, false] rfl rfl (any_of HT_.out (by kernel_rfl)) (fun _ _ _ h => h) (Or.inl ⟨by rfl, ?_⟩) ?_ ?_
      rotate_left
      ·intro w'
       go_simp
       with_reducible rfl
      rotate_left
      ·simp only [Act.put, List.setIfInBounds_toArray, List.set_cons_zero, List.set_cons_succ, i64_w, i32_w]
       rfl
      refine pure_ (i := 9) (N := some 23) (v := ?_) (a' := ?_) #[true, true, false, false, true, true, false, false, true, true, false, false, false, false, false] rfl rfl (any_of HT_.out (by kernel_rfl)) (fun _ _ _ h => h) (Or.inl ⟨by rfl, ?_⟩) ?_ ?_
      rotate_left
      ·intro w'
       go_simp
       with_reducible rfl
      rotate_left
      ·simp only [Act.put, List.setIfInBounds_toArray, List.set_cons_zero, List.set_cons_succ, i64_w, i32_w]
       rfl
      refine take_ (i := 2) (N := some 16) (v := ?_) (a' := ?_) #[true, true, true, false, true, true, false, false, true, true, false, false, false, false, false] rfl rfl (take_ofW HT_.out HW_.out (by kernel_rfl)) (fun _ _ _ h => h) (Or.inl ⟨by rfl, ?_⟩) hHeld ?_ ?_
      rotate_left
      ·rintro w' ⟨s0, s1, s2⟩
       go_simp
       with_reducible rfl
      rotate_left
      ·simp only [Act.put, List.setIfInBounds_toArray, List.set_cons_zero, List.set_cons_succ, i64_w, i32_w]
       rfl
      refine take_ (i := 6) (N := some 20) (v := ?_) (a' := ?_) #[true, true, true, false, true, true, true, false, true, true, false, false, false, false, false] rfl rfl (take_ofW HT_.out HW_.out (by kernel_rfl)) (fun _ _ _ h => h) (Or.inl ⟨by rfl, ?_⟩) hHeld ?_ ?_
      rotate_left
      ·rintro w' ⟨s0, s1, s2⟩
       go_simp
       with_reducible rfl
      rotate_left
      ·simp only [Act.put, List.setIfInBounds_toArray, List.set_cons_zero, List.set_cons_succ, i64_w, i32_w]
       rfl
      refine take_ (i := 10) (N := some 24) (v := ?_) (a' := ?_) #[true, true, true, false, true, true, true, false, true, true, true, false, false, false, false] rfl rfl (take_ofW HT_.out HW_.out (by kernel_rfl)) (fun _ _ _ h => h) (Or.inl ⟨by rfl, ?_⟩) hHeld ?_ ?_
      rotate_left
      ·rintro w' ⟨s0, s1, s2⟩
       go_simp
       with_reducible rfl
      rotate_left
      ·simp only [Act.put, List.setIfInBounds_toArray, List.set_cons_zero, List.set_cons_succ, i64_w, i32_w]
       rfl
      refine join_ (σ := Value × Value × Value × Nat) 1 #[true, true, true, true, true, true, true, true, true, true, true, true, true, true, false] (fun s_ => [(17, s_.1), (21, s_.2.1), (25, s_.2.2.1), (5, .pointer (some ⟨s_.2.2.2, 0, none⟩)), (26, .agg #[s_.1, s_.2.1, s_.2.2.1])]) (fun s_ w' => (w'.cell? ad167 = some (.string (rdOf ByteArray.empty t164 0)) ∧ w'.cell? ⟨ad167.block, ad167.off + 1, none⟩ = some (.string (rdOf ByteArray.empty t164 1)) ∧ w'.cell? ⟨ad167.block, ad167.off + 2, none⟩ = some (.string (rdOf ByteArray.empty t164 2))) ∧ (Kd.R Kd.string 9 w' w.heap.size (fun _ => True) (.slice (some ad167) t164.length co60) t164) ∧ (Kd.R (Kd.int .i64) 3 w' w.heap.size (fun k_ => some k_ ≠ (s_.2.1 : Value).ownBlock ∧ some k_ ≠ (s_.2.2.1 : Value).ownBlock) s_.1 t168) ∧ (Kd.R (Kd.int .i64) 3 w' w.heap.size (fun k_ => some k_ ≠ (s_.1 : Value).ownBlock ∧ some k_ ≠ (s_.2.2.1 : Value).ownBlock) s_.2.1 t172) ∧ (Kd.R (Kd.int .i64) 3 w' w.heap.size (fun k_ => some k_ ≠ (s_.1 : Value).ownBlock ∧ some k_ ≠ (s_.2.1 : Value).ownBlock) s_.2.2.1 t176) ∧ (w'.heap[gb163]? = some (.cells #[.slice none 0 0, .slice none 0 0, .slice none 0 0] 39 (0, 0))) ∧ (w'.heap[s_.2.2.2]? = some (.cells #[.slice none 0 0, .slice none 0 0, .slice none 0 0] 39 (0, 0))) ∧ (w.heap.size ≤ s_.2.2.2) ∧ (w.heap.size ≤ s_.2.2.2) ∧ (gb163 ≠ s_.2.2.2) ∧ (s_.2.2.2 ≠ gb163) ∧ (Below w.heap.size w w')) ?_ ?_
      rotate_left
      ·intro hCont
       refine two_ (i := 3) (j := 13) (Ni := some 17) (Nj := some 5) #[true, true, true, true, true, true, true, false, true, true, true, false, false, false, false] #[true, true, true, false, true, true, true, false, true, true, true, false, false, true, false] rfl rfl rfl rfl (two_of HT_.out (by kernel_rfl)) (by decide) (by decide) (fun K hK => ?_) (fun K hK => ?_)
       ·skip
        refine goes_ Try.func82 (by kernel_rfl) rfl #[.string (rdOf ByteArray.empty t164 0)] (by rfl) rfl rfl Bb_4 ?_
        with_reducible refine (impl_uncommas.calls k (rdOf ByteArray.empty t164 0) t168 _ A5.out).mono ?_
        rintro e w62 ⟨v169, rfl, ho0, hb⟩
        have HS0_ := (hb.cell (World.block_lt_of_cell? _ _ (hHeld.1))).trans (hHeld.1)
        have HS1_ := (hb.cell (World.block_lt_of_cell? _ _ (hHeld.2.1))).trans (hHeld.2.1)
        have HS2_ := (hb.cell (World.block_lt_of_cell? _ _ (hHeld.2.2))).trans (hHeld.2.2)
        refine ⟨_, rfl, ?_⟩
        have n0_ := Aside0.mk (Kd.R_below Bb_6 hb)
        have n1_ := Aside0.mk (Kd.R_lower ho0 (below_size Bb_0))
        have n2_ := Aside0.mk (blk_below (g := gb163) (o := .cells #[.slice none 0 0, .slice none 0 0, .slice none 0 0] 39 (0, 0)) Bb_2 hb)
        have n3_ := Aside0.mk (below_step Bb_0 hb)
        clear HO166
        clear BK163
        clear HB
        have HO166 := n0_
        have HO170 := n1_
        have BK163 := n2_
        have HB := n3_
        clear n0_ n1_ n2_ n3_
        (try clear hb)
        (try clear hb2)
        (try clear hk)
        (try clear hi)
        (try clear ho0)
        refine hK.out _ _ ⟨HS0_, HS1_, HS2_⟩ (fun hHeld => ?_)
        clear hK K
        refine norm_ (a' := ?_) ?_ ?_
        rotate_left
        ·show Act.put _ (some 17) _ = _
         simp only [Act.put, List.setIfInBounds_toArray, List.set_cons_zero, List.set_cons_succ, i64_w, i32_w]
         rfl
        refine two_ (i := 7) (j := 13) (Ni := some 21) (Nj := some 5) #[true, true, true, true, true, true, true, true, true, true, true, false, false, false, false] #[true, true, true, true, true, true, true, false, true, true, true, false, false, true, false] rfl rfl rfl rfl (two_of HT_.out (by kernel_rfl)) (by decide) (by decide) (fun K hK => ?_) (fun K hK => ?_)
        ·skip
         refine goes_ Try.func82 (by kernel_rfl) rfl #[.string (rdOf ByteArray.empty t164 1)] (by rfl) rfl rfl Bb_4 ?_
         with_reducible refine (impl_uncommas.calls k (rdOf ByteArray.empty t164 1) t172 _ A7.out).mono ?_
         rintro e w63 ⟨v173, rfl, ho0, hb⟩
         have HS0_ := (hb.cell (World.block_lt_of_cell? _ _ (hHeld.1))).trans (hHeld.1)
         have HS1_ := (hb.cell (World.block_lt_of_cell? _ _ (hHeld.2.1))).trans (hHeld.2.1)
         have HS2_ := (hb.cell (World.block_lt_of_cell? _ _ (hHeld.2.2))).trans (hHeld.2.2)
         refine ⟨_, rfl, ?_⟩
         have n0_ := Aside0.mk (Kd.R_below Bb_6 hb)
         have n1_ := Aside0.mk (Kd.R_elder' Bb_7 (Kd.R_base ho0) hb)
         have n2_ := Aside0.mk (Kd.R_lower (Kd.R_new' ho0 (Kd.R_lt Bb_7)) (below_size Bb_0))
         have n3_ := Aside0.mk (blk_below (g := gb163) (o := .cells #[.slice none 0 0, .slice none 0 0, .slice none 0 0] 39 (0, 0)) Bb_2 hb)
         have n4_ := Aside0.mk (below_step Bb_0 hb)
         clear HO166
         clear HO170
         clear BK163
         clear HB
         have HO166 := n0_
         have HO170 := n1_
         have HO174 := n2_
         have BK163 := n3_
         have HB := n4_
         clear n0_ n1_ n2_ n3_ n4_
         (try clear hb)
         (try clear hb2)
         (try clear hk)
         (try clear hi)
         (try clear ho0)
         refine hK.out _ _ ⟨HS0_, HS1_, HS2_⟩ (fun hHeld => ?_)
         clear hK K
         refine norm_ (a' := ?_) ?_ ?_
         rotate_left
         ·show Act.put _ (some 21) _ = _
          simp only [Act.put, List.setIfInBounds_toArray, List.set_cons_zero, List.set_cons_succ, i64_w, i32_w]
          rfl
         refine two_ (i := 11) (j := 13) (Ni := some 25) (Nj := some 5) #[true, true, true, true, true, true, true, true, true, true, true, true, false, false, false] #[true, true, true, true, true, true, true, true, true, true, true, false, false, true, false] rfl rfl rfl rfl (two_of HT_.out (by kernel_rfl)) (by decide) (by decide) (fun K hK => ?_) (fun K hK => ?_)
         ·skip
          refine goes_ Try.func82 (by kernel_rfl) rfl #[.string (rdOf ByteArray.empty t164 2)] (by rfl) rfl rfl Bb_4 ?_
          with_reducible refine (impl_uncommas.calls k (rdOf ByteArray.empty t164 2) t176 _ A9.out).mono ?_
          rintro e w64 ⟨v177, rfl, ho0, hb⟩
          have HS0_ := (hb.cell (World.block_lt_of_cell? _ _ (hHeld.1))).trans (hHeld.1)
          have HS1_ := (hb.cell (World.block_lt_of_cell? _ _ (hHeld.2.1))).trans (hHeld.2.1)
          have HS2_ := (hb.cell (World.block_lt_of_cell? _ _ (hHeld.2.2))).trans (hHeld.2.2)
          refine ⟨_, rfl, ?_⟩
          have n0_ := Aside0.mk (Kd.R_below Bb_6 hb)
          have n1_ := Aside0.mk (Kd.R_elder' Bb_7 (Kd.R_base ho0) hb)
          have n2_ := Aside0.mk (Kd.R_elder' Bb_9 (Kd.R_base ho0) hb)
          have n3_ := Aside0.mk (Kd.R_lower (Kd.R_new' (Kd.R_new' ho0 (Kd.R_lt Bb_7)) (Kd.R_lt Bb_9)) (below_size Bb_0))
          have n4_ := Aside0.mk (blk_below (g := gb163) (o := .cells #[.slice none 0 0, .slice none 0 0, .slice none 0 0] 39 (0, 0)) Bb_2 hb)
          have n5_ := Aside0.mk (below_step Bb_0 hb)
          clear HO166
          clear HO170
          clear HO174
          clear BK163
          clear HB
          have HO166 := n0_
          have HO170 := n1_
          have HO174 := n2_
          have HO178 := n3_
          have BK163 := n4_
          have HB := n5_
          clear n0_ n1_ n2_ n3_ n4_ n5_
          (try clear hb)
          (try clear hb2)
          (try clear hk)
          (try clear hi)
          (try clear ho0)
          obtain ⟨Ao65, co65, eo65⟩ := Kd.R_slice HO178.out
          (first | subst eo65 | (injection eo65 with f1_ f2_ f3_; have f4_ := f1_.symm; have f5_ := f3_.symm; clear f1_ f2_ f3_; subst f4_; subst f5_))
          obtain ⟨Ao66, co66, eo66⟩ := Kd.R_slice HO174.out
          (first | subst eo66 | (injection eo66 with f1_ f2_ f3_; have f4_ := f1_.symm; have f5_ := f3_.symm; clear f1_ f2_ f3_; subst f4_; subst f5_))
          obtain ⟨Ao67, co67, eo67⟩ := Kd.R_slice HO170.out
          (first | subst eo67 | (injection eo67 with f1_ f2_ f3_; have f4_ := f1_.symm; have f5_ := f3_.symm; clear f1_ f2_ f3_; subst f4_; subst f5_))
          refine hK.out _ _ ⟨HS0_, HS1_, HS2_⟩ (fun hHeld => ?_)
          clear hK K
          refine norm_ (a' := ?_) ?_ ?_
          rotate_left
          ·show Act.put _ (some 25) _ = _
           simp only [Act.put, List.setIfInBounds_toArray, List.set_cons_zero, List.set_cons_succ, i64_w, i32_w]
           rfl
          refine pure_ (i := 12) (N := some 26) (v := ?_) (a' := ?_) #[true, true, true, true, true, true, true, true, true, true, true, true, true, false, false] rfl rfl (any_of HT_.out (by kernel_rfl)) (fun _ _ _ h => h) (Or.inl ⟨by rfl, ?_⟩) ?_ ?_
          rotate_left
          ·intro w'
           go_simp
           with_reducible rfl
          rotate_left
          ·simp only [Act.put, List.setIfInBounds_toArray, List.set_cons_zero, List.set_cons_succ, i64_w, i32_w]
           rfl
          refine one_ (i := 13) (N := some 5) #[true, true, true, true, true, true, true, true, true, true, true, true, true, true, false] rfl rfl (one_of HT_.out (by kernel_rfl)) (by decide) (fun K hK => ?_)
          refine box_step ?hg (N := 5) ?hd (cs := #[.slice none 0 0, .slice none 0 0, .slice none 0 0]) (t := 39) ?hr ?_; (case hd => rfl); (case hg => rfl); (case hr => first | (go_simp; done) | (go_simp; rfl))
          intro gb179 hg w68 hbox hb
          have HS0_ := (hb.cell (World.block_lt_of_cell? _ _ (hHeld.1))).trans (hHeld.1)
          have HS1_ := (hb.cell (World.block_lt_of_cell? _ _ (hHeld.2.1))).trans (hHeld.2.1)
          have HS2_ := (hb.cell (World.block_lt_of_cell? _ _ (hHeld.2.2))).trans (hHeld.2.2)
          have n0_ := Aside0.mk (Kd.R_below Bb_6 hb)
          have n1_ := Aside0.mk (Kd.R_below Bb_7 hb)
          have n2_ := Aside0.mk (Kd.R_below Bb_9 hb)
          have n3_ := Aside0.mk (Kd.R_below Bb_30 hb)
          have n4_ := Aside0.mk (blk_below (g := gb163) (o := .cells #[.slice none 0 0, .slice none 0 0, .slice none 0 0] 39 (0, 0)) Bb_2 hb)
          have n5_ := Aside0.mk (below_step Bb_0 hb)
          have n6_ := Aside0.mk (hbox)
          have n7_ := Aside0.mk ((by rw [hg]; exact (below_size Bb_0) : w.heap.size ≤ gb179))
          have n8_ := Aside0.mk ((by rw [hg]; exact (below_size Bb_0) : w.heap.size ≤ gb179))
          have n9_ := Aside0.mk ((by rw [hg]; exact Nat.ne_of_lt (blk_lt (g := gb163) (o := .cells #[.slice none 0 0, .slice none 0 0, .slice none 0 0] 39 (0, 0)) Bb_2) : gb163 ≠ gb179))
          have n10_ := Aside0.mk ((by rw [hg]; exact Nat.ne_of_gt (blk_lt (g := gb163) (o := .cells #[.slice none 0 0, .slice none 0 0, .slice none 0 0] 39 (0, 0)) Bb_2) : gb179 ≠ gb163))
          clear HO166
          clear HO170
          clear HO174
          clear HO178
          clear BK163
          clear HB
          have HO166 := n0_
          have HO170 := n1_
          have HO174 := n2_
          have HO178 := n3_
          have BK163 := n4_
          have HB := n5_
          have BK179 := n6_
          have GW179 := n7_
          have GE179 := n8_
          have NB163_179 := n9_
          have NB179_163 := n10_
          clear n0_ n1_ n2_ n3_ n4_ n5_ n6_ n7_ n8_ n9_ n10_
          clear hb hbox hg
          refine hK.out _ _ ⟨HS0_, HS1_, HS2_⟩ (fun hHeld => ?_)
          clear hK K
          refine norm_ (a' := ?_) ?_ ?_
          rotate_left
          ·show Act.put _ (some 5) _ = _
           simp only [Act.put, List.setIfInBounds_toArray, List.set_cons_zero, List.set_cons_succ, i64_w, i32_w]
           rfl
          exact norm_ Bb_17 (hCont (.slice Ao67 t168.length co67, .slice Ao66 t172.length co66, .slice Ao65 t176.length co65, gb179) _ ⟨hHeld, Bb_6, Bb_11, Bb_12, Bb_13, Bb_2, Bb_8, GW179.out, GE179.out, NB163_179.out, NB179_163.out, Bb_1⟩)
         ·skip
          refine box_step ?hg (N := 5) ?hd (cs := #[.slice none 0 0, .slice none 0 0, .slice none 0 0]) (t := 39) ?hr ?_; (case hd => rfl); (case hg => rfl); (case hr => first | (go_simp; done) | (go_simp; rfl))
          intro gb179 hg w64 hbox hb
          have HS0_ := (hb.cell (World.block_lt_of_cell? _ _ (hHeld.1))).trans (hHeld.1)
          have HS1_ := (hb.cell (World.block_lt_of_cell? _ _ (hHeld.2.1))).trans (hHeld.2.1)
          have HS2_ := (hb.cell (World.block_lt_of_cell? _ _ (hHeld.2.2))).trans (hHeld.2.2)
          have n0_ := Aside0.mk (Kd.R_below Bb_6 hb)
          have n1_ := Aside0.mk (Kd.R_below Bb_7 hb)
          have n2_ := Aside0.mk (Kd.R_below Bb_9 hb)
          have n3_ := Aside0.mk (blk_below (g := gb163) (o := .cells #[.slice none 0 0, .slice none 0 0, .slice none 0 0] 39 (0, 0)) Bb_2 hb)
          have n4_ := Aside0.mk (below_step Bb_0 hb)
          have n5_ := Aside0.mk (hbox)
          have n6_ := Aside0.mk ((by rw [hg]; exact (below_size Bb_0) : w.heap.size ≤ gb179))
          have n7_ := Aside0.mk ((by rw [hg]; exact (below_size Bb_0) : w.heap.size ≤ gb179))
          have n8_ := Aside0.mk ((by rw [hg]; exact Nat.ne_of_lt (blk_lt (g := gb163) (o := .cells #[.slice none 0 0, .slice none 0 0, .slice none 0 0] 39 (0, 0)) Bb_2) : gb163 ≠ gb179))
          have n9_ := Aside0.mk ((by rw [hg]; exact Nat.ne_of_gt (blk_lt (g := gb163) (o := .cells #[.slice none 0 0, .slice none 0 0, .slice none 0 0] 39 (0, 0)) Bb_2) : gb179 ≠ gb163))
          clear HO166
          clear HO170
          clear HO174
          clear BK163
          clear HB
          have HO166 := n0_
          have HO170 := n1_
          have HO174 := n2_
          have BK163 := n3_
          have HB := n4_
          have BK179 := n5_
          have GW179 := n6_
          have GE179 := n7_
          have NB163_179 := n8_
          have NB179_163 := n9_
          clear n0_ n1_ n2_ n3_ n4_ n5_ n6_ n7_ n8_ n9_
          clear hb hbox hg
          refine hK.out _ _ ⟨HS0_, HS1_, HS2_⟩ (fun hHeld => ?_)
          clear hK K
          refine norm_ (a' := ?_) ?_ ?_
          rotate_left
          ·show Act.put _ (some 5) _ = _
           simp only [Act.put, List.setIfInBounds_toArray, List.set_cons_zero, List.set_cons_succ, i64_w, i32_w]
           rfl
          refine one_ (i := 11) (N := some 25) #[true, true, true, true, true, true, true, true, true, true, true, true, false, true, false] rfl rfl (one_of HT_.out (by kernel_rfl)) (by decide) (fun K hK => ?_)
          refine goes_ Try.func82 (by kernel_rfl) rfl #[.string (rdOf ByteArray.empty t164 2)] (by rfl) rfl rfl Bb_4 ?_
          with_reducible refine (impl_uncommas.calls k (rdOf ByteArray.empty t164 2) t176 _ A9.out).mono ?_
          rintro e w65 ⟨v177, rfl, ho0, hb⟩
          have HS0_ := (hb.cell (World.block_lt_of_cell? _ _ (hHeld.1))).trans (hHeld.1)
          have HS1_ := (hb.cell (World.block_lt_of_cell? _ _ (hHeld.2.1))).trans (hHeld.2.1)
          have HS2_ := (hb.cell (World.block_lt_of_cell? _ _ (hHeld.2.2))).trans (hHeld.2.2)
          refine ⟨_, rfl, ?_⟩
          have n0_ := Aside0.mk (Kd.R_below Bb_6 hb)
          have n1_ := Aside0.mk (Kd.R_elder' Bb_7 (Kd.R_base ho0) hb)
          have n2_ := Aside0.mk (Kd.R_elder' Bb_9 (Kd.R_base ho0) hb)
          have n3_ := Aside0.mk (Kd.R_lower (Kd.R_new' (Kd.R_new' ho0 (Kd.R_lt Bb_7)) (Kd.R_lt Bb_9)) (below_size Bb_1))
          have n4_ := Aside0.mk (blk_below (g := gb163) (o := .cells #[.slice none 0 0, .slice none 0 0, .slice none 0 0] 39 (0, 0)) Bb_2 hb)
          have n5_ := Aside0.mk (blk_below (g := gb179) (o := .cells #[.slice none 0 0, .slice none 0 0, .slice none 0 0] 39 (0, 0)) Bb_8 hb)
          have n6_ := Aside0.mk (below_step Bb_1 hb)
          clear HO166
          clear HO170
          clear HO174
          clear BK163
          clear BK179
          clear HB
          have HO166 := n0_
          have HO170 := n1_
          have HO174 := n2_
          have HO178 := n3_
          have BK163 := n4_
          have BK179 := n5_
          have HB := n6_
          clear n0_ n1_ n2_ n3_ n4_ n5_ n6_
          (try clear hb)
          (try clear hb2)
          (try clear hk)
          (try clear hi)
          (try clear ho0)
          obtain ⟨Ao66, co66, eo66⟩ := Kd.R_slice HO178.out
          (first | subst eo66 | (injection eo66 with f1_ f2_ f3_; have f4_ := f1_.symm; have f5_ := f3_.symm; clear f1_ f2_ f3_; subst f4_; subst f5_))
          obtain ⟨Ao67, co67, eo67⟩ := Kd.R_slice HO174.out
          (first | subst eo67 | (injection eo67 with f1_ f2_ f3_; have f4_ := f1_.symm; have f5_ := f3_.symm; clear f1_ f2_ f3_; subst f4_; subst f5_))
          obtain ⟨Ao68, co68, eo68⟩ := Kd.R_slice HO170.out
          (first | subst eo68 | (injection eo68 with f1_ f2_ f3_; have f4_ := f1_.symm; have f5_ := f3_.symm; clear f1_ f2_ f3_; subst f4_; subst f5_))
          refine hK.out _ _ ⟨HS0_, HS1_, HS2_⟩ (fun hHeld => ?_)
          clear hK K
          refine norm_ (a' := ?_) ?_ ?_
          rotate_left
          ·show Act.put _ (some 25) _ = _
           simp only [Act.put, List.setIfInBounds_toArray, List.set_cons_zero, List.set_cons_succ, i64_w, i32_w]
           rfl
          refine pure_ (i := 12) (N := some 26) (v := ?_) (a' := ?_) #[true, true, true, true, true, true, true, true, true, true, true, true, true, true, false] rfl rfl (any_of HT_.out (by kernel_rfl)) (fun _ _ _ h => h) (Or.inl ⟨by rfl, ?_⟩) ?_ ?_
          rotate_left
          ·intro w'
           go_simp
           with_reducible rfl
          rotate_left
          ·simp only [Act.put, List.setIfInBounds_toArray, List.set_cons_zero, List.set_cons_succ, i64_w, i32_w]
           rfl
          exact norm_ Bb_17 (hCont (.slice Ao68 t168.length co68, .slice Ao67 t172.length co67, .slice Ao66 t176.length co66, gb179) _ ⟨hHeld, Bb_6, Bb_11, Bb_12, Bb_13, Bb_2, Bb_8, GW179.out, GE179.out, NB163_179.out, NB179_163.out, Bb_1⟩)
        ·skip
         refine box_step ?hg (N := 5) ?hd (cs := #[.slice none 0 0, .slice none 0 0, .slice none 0 0]) (t := 39) ?hr ?_; (case hd => rfl); (case hg => rfl); (case hr => first | (go_simp; done) | (go_simp; rfl))
         intro gb179 hg w63 hbox hb
         have HS0_ := (hb.cell (World.block_lt_of_cell? _ _ (hHeld.1))).trans (hHeld.1)
         have HS1_ := (hb.cell (World.block_lt_of_cell? _ _ (hHeld.2.1))).trans (hHeld.2.1)
         have HS2_ := (hb.cell (World.block_lt_of_cell? _ _ (hHeld.2.2))).trans (hHeld.2.2)
         have n0_ := Aside0.mk (Kd.R_below Bb_6 hb)
         have n1_ := Aside0.mk (Kd.R_below Bb_7 hb)
         have n2_ := Aside0.mk (blk_below (g := gb163) (o := .cells #[.slice none 0 0, .slice none 0 0, .slice none 0 0] 39 (0, 0)) Bb_2 hb)
         have n3_ := Aside0.mk (below_step Bb_0 hb)
         have n4_ := Aside0.mk (hbox)
         have n5_ := Aside0.mk ((by rw [hg]; exact (below_size Bb_0) : w.heap.size ≤ gb179))
         have n6_ := Aside0.mk ((by rw [hg]; exact (below_size Bb_0) : w.heap.size ≤ gb179))
         have n7_ := Aside0.mk ((by rw [hg]; exact Nat.ne_of_lt (blk_lt (g := gb163) (o := .cells #[.slice none 0 0, .slice none 0 0, .slice none 0 0] 39 (0, 0)) Bb_2) : gb163 ≠ gb179))
         have n8_ := Aside0.mk ((by rw [hg]; exact Nat.ne_of_gt (blk_lt (g := gb163) (o := .cells #[.slice none 0 0, .slice none 0 0, .slice none 0 0] 39 (0, 0)) Bb_2) : gb179 ≠ gb163))
         clear HO166
         clear HO170
         clear BK163
         clear HB
         have HO166 := n0_
         have HO170 := n1_
         have BK163 := n2_
         have HB := n3_
         have BK179 := n4_
         have GW179 := n5_
         have GE179 := n6_
         have NB163_179 := n7_
         have NB179_163 := n8_
         clear n0_ n1_ n2_ n3_ n4_ n5_ n6_ n7_ n8_
         clear hb hbox hg
         refine hK.out _ _ ⟨HS0_, HS1_, HS2_⟩ (fun hHeld => ?_)
         clear hK K
         refine norm_ (a' := ?_) ?_ ?_
         rotate_left
         ·show Act.put _ (some 5) _ = _
          simp only [Act.put, List.setIfInBounds_toArray, List.set_cons_zero, List.set_cons_succ, i64_w, i32_w]
          rfl
         refine one_ (i := 7) (N := some 21) #[true, true, true, true, true, true, true, true, true, true, true, false, false, true, false] rfl rfl (one_of HT_.out (by kernel_rfl)) (by decide) (fun K hK => ?_)
         refine goes_ Try.func82 (by kernel_rfl) rfl #[.string (rdOf ByteArray.empty t164 1)] (by rfl) rfl rfl Bb_4 ?_
         with_reducible refine (impl_uncommas.calls k (rdOf ByteArray.empty t164 1) t172 _ A7.out).mono ?_
         rintro e w64 ⟨v173, rfl, ho0, hb⟩
         have HS0_ := (hb.cell (World.block_lt_of_cell? _ _ (hHeld.1))).trans (hHeld.1)
         have HS1_ := (hb.cell (World.block_lt_of_cell? _ _ (hHeld.2.1))).trans (hHeld.2.1)
         have HS2_ := (hb.cell (World.block_lt_of_cell? _ _ (hHeld.2.2))).trans (hHeld.2.2)
         refine ⟨_, rfl, ?_⟩
         have n0_ := Aside0.mk (Kd.R_below Bb_6 hb)
         have n1_ := Aside0.mk (Kd.R_elder' Bb_7 (Kd.R_base ho0) hb)
         have n2_ := Aside0.mk (Kd.R_lower (Kd.R_new' ho0 (Kd.R_lt Bb_7)) (below_size Bb_1))
         have n3_ := Aside0.mk (blk_below (g := gb163) (o := .cells #[.slice none 0 0, .slice none 0 0, .slice none 0 0] 39 (0, 0)) Bb_2 hb)
         have n4_ := Aside0.mk (blk_below (g := gb179) (o := .cells #[.slice none 0 0, .slice none 0 0, .slice none 0 0] 39 (0, 0)) Bb_8 hb)
         have n5_ := Aside0.mk (below_step Bb_1 hb)
         clear HO166
         clear HO170
         clear BK163
         clear BK179
         clear HB
         have HO166 := n0_
         have HO170 := n1_
         have HO174 := n2_
         have BK163 := n3_
         have BK179 := n4_
         have HB := n5_
         clear n0_ n1_ n2_ n3_ n4_ n5_
         (try clear hb)
         (try clear hb2)
         (try clear hk)
         (try clear hi)
         (try clear ho0)
         refine hK.out _ _ ⟨HS0_, HS1_, HS2_⟩ (fun hHeld => ?_)
         clear hK K
         refine norm_ (a' := ?_) ?_ ?_
         rotate_left
         ·show Act.put _ (some 21) _ = _
          simp only [Act.put, List.setIfInBounds_toArray, List.set_cons_zero, List.set_cons_succ, i64_w, i32_w]
          rfl
         refine one_ (i := 11) (N := some 25) #[true, true, true, true, true, true, true, true, true, true, true, true, false, true, false] rfl rfl (one_of HT_.out (by kernel_rfl)) (by decide) (fun K hK => ?_)
         refine goes_ Try.func82 (by kernel_rfl) rfl #[.string (rdOf ByteArray.empty t164 2)] (by rfl) rfl rfl Bb_4 ?_
         with_reducible refine (impl_uncommas.calls k (rdOf ByteArray.empty t164 2) t176 _ A9.out).mono ?_
         rintro e w65 ⟨v177, rfl, ho0, hb⟩
         have HS0_ := (hb.cell (World.block_lt_of_cell? _ _ (hHeld.1))).trans (hHeld.1)
         have HS1_ := (hb.cell (World.block_lt_of_cell? _ _ (hHeld.2.1))).trans (hHeld.2.1)
         have HS2_ := (hb.cell (World.block_lt_of_cell? _ _ (hHeld.2.2))).trans (hHeld.2.2)
         refine ⟨_, rfl, ?_⟩
         have n0_ := Aside0.mk (Kd.R_below Bb_6 hb)
         have n1_ := Aside0.mk (Kd.R_elder' Bb_7 (Kd.R_base ho0) hb)
         have n2_ := Aside0.mk (Kd.R_elder' Bb_9 (Kd.R_base ho0) hb)
         have n3_ := Aside0.mk (Kd.R_lower (Kd.R_new' (Kd.R_new' ho0 (Kd.R_lt Bb_7)) (Kd.R_lt Bb_9)) (below_size Bb_1))
         have n4_ := Aside0.mk (blk_below (g := gb163) (o := .cells #[.slice none 0 0, .slice none 0 0, .slice none 0 0] 39 (0, 0)) Bb_2 hb)
         have n5_ := Aside0.mk (blk_below (g := gb179) (o := .cells #[.slice none 0 0, .slice none 0 0, .slice none 0 0] 39 (0, 0)) Bb_8 hb)
         have n6_ := Aside0.mk (below_step Bb_1 hb)
         clear HO166
         clear HO170
         clear HO174
         clear BK163
         clear BK179
         clear HB
         have HO166 := n0_
         have HO170 := n1_
         have HO174 := n2_
         have HO178 := n3_
         have BK163 := n4_
         have BK179 := n5_
         have HB := n6_
         clear n0_ n1_ n2_ n3_ n4_ n5_ n6_
         (try clear hb)
         (try clear hb2)
         (try clear hk)
         (try clear hi)
         (try clear ho0)
         obtain ⟨Ao66, co66, eo66⟩ := Kd.R_slice HO178.out
         (first | subst eo66 | (injection eo66 with f1_ f2_ f3_; have f4_ := f1_.symm; have f5_ := f3_.symm; clear f1_ f2_ f3_; subst f4_; subst f5_))
         obtain ⟨Ao67, co67, eo67⟩ := Kd.R_slice HO174.out
         (first | subst eo67 | (injection eo67 with f1_ f2_ f3_; have f4_ := f1_.symm; have f5_ := f3_.symm; clear f1_ f2_ f3_; subst f4_; subst f5_))
         obtain ⟨Ao68, co68, eo68⟩ := Kd.R_slice HO170.out
         (first | subst eo68 | (injection eo68 with f1_ f2_ f3_; have f4_ := f1_.symm; have f5_ := f3_.symm; clear f1_ f2_ f3_; subst f4_; subst f5_))
         refine hK.out _ _ ⟨HS0_, HS1_, HS2_⟩ (fun hHeld => ?_)
         clear hK K
         refine norm_ (a' := ?_) ?_ ?_
         rotate_left
         ·show Act.put _ (some 25) _ = _
          simp only [Act.put, List.setIfInBounds_toArray, List.set_cons_zero, List.set_cons_succ, i64_w, i32_w]
          rfl
         refine pure_ (i := 12) (N := some 26) (v := ?_) (a' := ?_) #[true, true, true, true, true, true, true, true, true, true, true, true, true, true, false] rfl rfl (any_of HT_.out (by kernel_rfl)) (fun _ _ _ h => h) (Or.inl ⟨by rfl, ?_⟩) ?_ ?_
         rotate_left
         ·intro w'
          go_simp
          with_reducible rfl
         rotate_left
         ·simp only [Act.put, List.setIfInBounds_toArray, List.set_cons_zero, List.set_cons_succ, i64_w, i32_w]
          rfl
         exact norm_ Bb_17 (hCont (.slice Ao68 t168.length co68, .slice Ao67 t172.length co67, .slice Ao66 t176.length co66, gb179) _ ⟨hHeld, Bb_6, Bb_11, Bb_12, Bb_13, Bb_2, Bb_8, GW179.out, GE179.out, NB163_179.out, NB179_163.out, Bb_1⟩)
       ·skip
        refine box_step ?hg (N := 5) ?hd (cs := #[.slice none 0 0, .slice none 0 0, .slice none 0 0]) (t := 39) ?hr ?_; (case hd => rfl); (case hg => rfl); (case hr => first | (go_simp; done) | (go_simp; rfl))
        intro gb179 hg w62 hbox hb
        have HS0_ := (hb.cell (World.block_lt_of_cell? _ _ (hHeld.1))).trans (hHeld.1)
        have HS1_ := (hb.cell (World.block_lt_of_cell? _ _ (hHeld.2.1))).trans (hHeld.2.1)
        have HS2_ := (hb.cell (World.block_lt_of_cell? _ _ (hHeld.2.2))).trans (hHeld.2.2)
        have n0_ := Aside0.mk (Kd.R_below Bb_6 hb)
        have n1_ := Aside0.mk (blk_below (g := gb163) (o := .cells #[.slice none 0 0, .slice none 0 0, .slice none 0 0] 39 (0, 0)) Bb_2 hb)
        have n2_ := Aside0.mk (below_step Bb_0 hb)
        have n3_ := Aside0.mk (hbox)
        have n4_ := Aside0.mk ((by rw [hg]; exact (below_size Bb_0) : w.heap.size ≤ gb179))
        have n5_ := Aside0.mk ((by rw [hg]; exact (below_size Bb_0) : w.heap.size ≤ gb179))
        have n6_ := Aside0.mk ((by rw [hg]; exact Nat.ne_of_lt (blk_lt (g := gb163) (o := .cells #[.slice none 0 0, .slice none 0 0, .slice none 0 0] 39 (0, 0)) Bb_2) : gb163 ≠ gb179))
        have n7_ := Aside0.mk ((by rw [hg]; exact Nat.ne_of_gt (blk_lt (g := gb163) (o := .cells #[.slice none 0 0, .slice none 0 0, .slice none 0 0] 39 (0, 0)) Bb_2) : gb179 ≠ gb163))
        clear HO166
        clear BK163
        clear HB
        have HO166 := n0_
        have BK163 := n1_
        have HB := n2_
        have BK179 := n3_
        have GW179 := n4_
        have GE179 := n5_
        have NB163_179 := n6_
        have NB179_163 := n7_
        clear n0_ n1_ n2_ n3_ n4_ n5_ n6_ n7_
        clear hb hbox hg
        refine hK.out _ _ ⟨HS0_, HS1_, HS2_⟩ (fun hHeld => ?_)
        clear hK K
        refine norm_ (a' := ?_) ?_ ?_
        rotate_left
        ·show Act.put _ (some 5) _ = _
         simp only [Act.put, List.setIfInBounds_toArray, List.set_cons_zero, List.set_cons_succ, i64_w, i32_w]
         rfl
        refine one_ (i := 3) (N := some 17) #[true, true, true, true, true, true, true, false, true, true, true, false, false, true, false] rfl rfl (one_of HT_.out (by kernel_rfl)) (by decide) (fun K hK => ?_)
        refine goes_ Try.func82 (by kernel_rfl) rfl #[.string (rdOf ByteArray.empty t164 0)] (by rfl) rfl rfl Bb_4 ?_
        with_reducible refine (impl_uncommas.calls k (rdOf ByteArray.empty t164 0) t168 _ A5.out).mono ?_
        rintro e w63 ⟨v169, rfl, ho0, hb⟩
        have HS0_ := (hb.cell (World.block_lt_of_cell? _ _ (hHeld.1))).trans (hHeld.1)
        have HS1_ := (hb.cell (World.block_lt_of_cell? _ _ (hHeld.2.1))).trans (hHeld.2.1)
        have HS2_ := (hb.cell (World.block_lt_of_cell? _ _ (hHeld.2.2))).trans (hHeld.2.2)
        refine ⟨_, rfl, ?_⟩
        have n0_ := Aside0.mk (Kd.R_below Bb_6 hb)
        have n1_ := Aside0.mk (Kd.R_lower ho0 (below_size Bb_1))
        have n2_ := Aside0.mk (blk_below (g := gb163) (o := .cells #[.slice none 0 0, .slice none 0 0, .slice none 0 0] 39 (0, 0)) Bb_2 hb)
        have n3_ := Aside0.mk (blk_below (g := gb179) (o := .cells #[.slice none 0 0, .slice none 0 0, .slice none 0 0] 39 (0, 0)) Bb_8 hb)
        have n4_ := Aside0.mk (below_step Bb_1 hb)
        clear HO166
        clear BK163
        clear BK179
        clear HB
        have HO166 := n0_
        have HO170 := n1_
        have BK163 := n2_
        have BK179 := n3_
        have HB := n4_
        clear n0_ n1_ n2_ n3_ n4_
        (try clear hb)
        (try clear hb2)
        (try clear hk)
        (try clear hi)
        (try clear ho0)
        refine hK.out _ _ ⟨HS0_, HS1_, HS2_⟩ (fun hHeld => ?_)
        clear hK K
        refine norm_ (a' := ?_) ?_ ?_
        rotate_left
        ·show Act.put _ (some 17) _ = _
         simp only [Act.put, List.setIfInBounds_toArray, List.set_cons_zero, List.set_cons_succ, i64_w, i32_w]
         rfl
        refine one_ (i := 7) (N := some 21) #[true, true, true, true, true, true, true, true, true, true, true, false, false, true, false] rfl rfl (one_of HT_.out (by kernel_rfl)) (by decide) (fun K hK => ?_)
        refine goes_ Try.func82 (by kernel_rfl) rfl #[.string (rdOf ByteArray.empty t164 1)] (by rfl) rfl rfl Bb_4 ?_
        with_reducible refine (impl_uncommas.calls k (rdOf ByteArray.empty t164 1) t172 _ A7.out).mono ?_
        rintro e w64 ⟨v173, rfl, ho0, hb⟩
        have HS0_ := (hb.cell (World.block_lt_of_cell? _ _ (hHeld.1))).trans (hHeld.1)
        have HS1_ := (hb.cell (World.block_lt_of_cell? _ _ (hHeld.2.1))).trans (hHeld.2.1)
        have HS2_ := (hb.cell (World.block_lt_of_cell? _ _ (hHeld.2.2))).trans (hHeld.2.2)
        refine ⟨_, rfl, ?_⟩
        have n0_ := Aside0.mk (Kd.R_below Bb_6 hb)
        have n1_ := Aside0.mk (Kd.R_elder' Bb_7 (Kd.R_base ho0) hb)
        have n2_ := Aside0.mk (Kd.R_lower (Kd.R_new' ho0 (Kd.R_lt Bb_7)) (below_size Bb_1))
        have n3_ := Aside0.mk (blk_below (g := gb163) (o := .cells #[.slice none 0 0, .slice none 0 0, .slice none 0 0] 39 (0, 0)) Bb_2 hb)
        have n4_ := Aside0.mk (blk_below (g := gb179) (o := .cells #[.slice none 0 0, .slice none 0 0, .slice none 0 0] 39 (0, 0)) Bb_8 hb)
        have n5_ := Aside0.mk (below_step Bb_1 hb)
        clear HO166
        clear HO170
        clear BK163
        clear BK179
        clear HB
        have HO166 := n0_
        have HO170 := n1_
        have HO174 := n2_
        have BK163 := n3_
        have BK179 := n4_
        have HB := n5_
        clear n0_ n1_ n2_ n3_ n4_ n5_
        (try clear hb)
        (try clear hb2)
        (try clear hk)
        (try clear hi)
        (try clear ho0)
        refine hK.out _ _ ⟨HS0_, HS1_, HS2_⟩ (fun hHeld => ?_)
        clear hK K
        refine norm_ (a' := ?_) ?_ ?_
        rotate_left
        ·show Act.put _ (some 21) _ = _
         simp only [Act.put, List.setIfInBounds_toArray, List.set_cons_zero, List.set_cons_succ, i64_w, i32_w]
         rfl
        refine one_ (i := 11) (N := some 25) #[true, true, true, true, true, true, true, true, true, true, true, true, false, true, false] rfl rfl (one_of HT_.out (by kernel_rfl)) (by decide) (fun K hK => ?_)
        refine goes_ Try.func82 (by kernel_rfl) rfl #[.string (rdOf ByteArray.empty t164 2)] (by rfl) rfl rfl Bb_4 ?_
        with_reducible refine (impl_uncommas.calls k (rdOf ByteArray.empty t164 2) t176 _ A9.out).mono ?_
        rintro e w65 ⟨v177, rfl, ho0, hb⟩
        have HS0_ := (hb.cell (World.block_lt_of_cell? _ _ (hHeld.1))).trans (hHeld.1)
        have HS1_ := (hb.cell (World.block_lt_of_cell? _ _ (hHeld.2.1))).trans (hHeld.2.1)
        have HS2_ := (hb.cell (World.block_lt_of_cell? _ _ (hHeld.2.2))).trans (hHeld.2.2)
        refine ⟨_, rfl, ?_⟩
        have n0_ := Aside0.mk (Kd.R_below Bb_6 hb)
        have n1_ := Aside0.mk (Kd.R_elder' Bb_7 (Kd.R_base ho0) hb)
        have n2_ := Aside0.mk (Kd.R_elder' Bb_9 (Kd.R_base ho0) hb)
        have n3_ := Aside0.mk (Kd.R_lower (Kd.R_new' (Kd.R_new' ho0 (Kd.R_lt Bb_7)) (Kd.R_lt Bb_9)) (below_size Bb_1))
        have n4_ := Aside0.mk (blk_below (g := gb163) (o := .cells #[.slice none 0 0, .slice none 0 0, .slice none 0 0] 39 (0, 0)) Bb_2 hb)
        have n5_ := Aside0.mk (blk_below (g := gb179) (o := .cells #[.slice none 0 0, .slice none 0 0, .slice none 0 0] 39 (0, 0)) Bb_8 hb)
        have n6_ := Aside0.mk (below_step Bb_1 hb)
        clear HO166
        clear HO170
        clear HO174
        clear BK163
        clear BK179
        clear HB
        have HO166 := n0_
        have HO170 := n1_
        have HO174 := n2_
        have HO178 := n3_
        have BK163 := n4_
        have BK179 := n5_
        have HB := n6_
        clear n0_ n1_ n2_ n3_ n4_ n5_ n6_
        (try clear hb)
        (try clear hb2)
        (try clear hk)
        (try clear hi)
        (try clear ho0)
        obtain ⟨Ao66, co66, eo66⟩ := Kd.R_slice HO178.out
        (first | subst eo66 | (injection eo66 with f1_ f2_ f3_; have f4_ := f1_.symm; have f5_ := f3_.symm; clear f1_ f2_ f3_; subst f4_; subst f5_))
        obtain ⟨Ao67, co67, eo67⟩ := Kd.R_slice HO174.out
        (first | subst eo67 | (injection eo67 with f1_ f2_ f3_; have f4_ := f1_.symm; have f5_ := f3_.symm; clear f1_ f2_ f3_; subst f4_; subst f5_))
        obtain ⟨Ao68, co68, eo68⟩ := Kd.R_slice HO170.out
        (first | subst eo68 | (injection eo68 with f1_ f2_ f3_; have f4_ := f1_.symm; have f5_ := f3_.symm; clear f1_ f2_ f3_; subst f4_; subst f5_))
        refine hK.out _ _ ⟨HS0_, HS1_, HS2_⟩ (fun hHeld => ?_)
        clear hK K
        refine norm_ (a' := ?_) ?_ ?_
        rotate_left
        ·show Act.put _ (some 25) _ = _
         simp only [Act.put, List.setIfInBounds_toArray, List.set_cons_zero, List.set_cons_succ, i64_w, i32_w]
         rfl
        refine pure_ (i := 12) (N := some 26) (v := ?_) (a' := ?_) #[true, true, true, true, true, true, true, true, true, true, true, true, true, true, false] rfl rfl (any_of HT_.out (by kernel_rfl)) (fun _ _ _ h => h) (Or.inl ⟨by rfl, ?_⟩) ?_ ?_
        rotate_left
        ·intro w'
         go_simp
         with_reducible rfl
        rotate_left
        ·simp only [Act.put, List.setIfInBounds_toArray, List.set_cons_zero, List.set_cons_succ, i64_w, i32_w]
         rfl
        exact norm_ Bb_17 (hCont (.slice Ao68 t168.length co68, .slice Ao67 t172.length co67, .slice Ao66 t176.length co66, gb179) _ ⟨hHeld, Bb_6, Bb_11, Bb_12, Bb_13, Bb_2, Bb_8, GW179.out, GE179.out, NB163_179.out, NB179_163.out, Bb_1⟩)
      rintro ⟨v169, v173, v177, gb179⟩ w69 ⟨hS_, h0_, h1_, h2_, h3_, h4_, h5_, h6_, h7_, h8_, h9_, h10_⟩
      have n0_ : Aside0 (Kd.R Kd.string 9 w69 w.heap.size (fun _ => True) (.slice (some ad167) t164.length co60) t164) := ⟨h0_⟩
      have n1_ : Aside0 (Kd.R (Kd.int .i64) 3 w69 w.heap.size (fun k_ => some k_ ≠ (v173 : Value).ownBlock ∧ some k_ ≠ (v177 : Value).ownBlock) v169 t168) := ⟨h1_⟩
      have n2_ : Aside0 (Kd.R (Kd.int .i64) 3 w69 w.heap.size (fun k_ => some k_ ≠ (v169 : Value).ownBlock ∧ some k_ ≠ (v177 : Value).ownBlock) v173 t172) := ⟨h2_⟩
      have n3_ : Aside0 (Kd.R (Kd.int .i64) 3 w69 w.heap.size (fun k_ => some k_ ≠ (v169 : Value).ownBlock ∧ some k_ ≠ (v173 : Value).ownBlock) v177 t176) := ⟨h3_⟩
      have n4_ : Aside0 (w69.heap[gb163]? = some (.cells #[.slice none 0 0, .slice none 0 0, .slice none 0 0] 39 (0, 0))) := ⟨h4_⟩
      have n5_ : Aside0 (w69.heap[gb179]? = some (.cells #[.slice none 0 0, .slice none 0 0, .slice none 0 0] 39 (0, 0))) := ⟨h5_⟩
      have n6_ : Aside0 (w.heap.size ≤ gb179) := ⟨h6_⟩
      have n7_ : Aside0 (w.heap.size ≤ gb179) := ⟨h7_⟩
      have n8_ : Aside0 (gb163 ≠ gb179) := ⟨h8_⟩
      have n9_ : Aside0 (gb179 ≠ gb163) := ⟨h9_⟩
      have n10_ : Aside0 (Below w.heap.size w w69) := ⟨h10_⟩
      clear HO166
      clear BK163
      clear HB
      clear h0_ h1_ h2_ h3_ h4_ h5_ h6_ h7_ h8_ h9_ h10_
      have HO166 := n0_
      have HO170 := n1_
      have HO174 := n2_
      have HO178 := n3_
      have BK163 := n4_
      have BK179 := n5_
      have GW179 := n6_
      have GE179 := n7_
      have NB163_179 := n8_
      have NB179_163 := n9_
      have HB := n10_
      clear n0_ n1_ n2_ n3_ n4_ n5_ n6_ n7_ n8_ n9_ n10_
      have hHeld : w69.cell? ad167 = some (.string (rdOf ByteArray.empty t164 0)) ∧ w69.cell? ⟨ad167.block, ad167.off + 1, none⟩ = some (.string (rdOf ByteArray.empty t164 1)) ∧ w69.cell? ⟨ad167.block, ad167.off + 2, none⟩ = some (.string (rdOf ByteArray.empty t164 2)) := hS_
      obtain ⟨Ao70, co70, eo70⟩ := Kd.R_slice HO178.out
      (first | subst eo70 | (injection eo70 with f1_ f2_ f3_; have f4_ := f1_.symm; have f5_ := f3_.symm; clear f1_ f2_ f3_; subst f4_; subst f5_))
      obtain ⟨Ao71, co71, eo71⟩ := Kd.R_slice HO174.out
      (first | subst eo71 | (injection eo71 with f1_ f2_ f3_; have f4_ := f1_.symm; have f5_ := f3_.symm; clear f1_ f2_ f3_; subst f4_; subst f5_))
      obtain ⟨Ao72, co72, eo72⟩ := Kd.R_slice HO170.out
      (first | subst eo72 | (injection eo72 with f1_ f2_ f3_; have f4_ := f1_.symm; have f5_ := f3_.symm; clear f1_ f2_ f3_; subst f4_; subst f5_))
      refine norm_ (a' := ?_) ?_ ?_
      rotate_left
      ·simp only [putAll, Act.put, List.setIfInBounds_toArray, List.set_cons_zero, List.set_cons_succ]
       rfl
      refine one_ (i := 14) (N := none) #[true, true, true, true, true, true, true, true, true, true, true, true, true, true, true] rfl rfl (one_of HT_.out (by kernel_rfl)) (by decide) (fun K hK => ?_)
      have hs73 : w69.cell? ⟨gb179, 0, none⟩ = some (.slice none 0 0) := (blk_cell BK179.out 0).trans rfl
      have hfs73 := blk_frozen BK179.out 0
      have hns73_0 := NB163_179.out
      have hms73_0 := NB179_163.out
      have hs74 : w69.cell? ⟨gb179, 1, none⟩ = some (.slice none 0 0) := (blk_cell BK179.out 1).trans rfl
      have hfs74 := blk_frozen BK179.out 1
      have hns74_0 := NB163_179.out
      have hms74_0 := NB179_163.out
      have hs75 : w69.cell? ⟨gb179, 2, none⟩ = some (.slice none 0 0) := (blk_cell BK179.out 2).trans rfl
      have hfs75 := blk_frozen BK179.out 2
      have hns75_0 := NB163_179.out
      have hms75_0 := NB179_163.out
      refine skip_ (w1 := ?_) (by rfl) rfl ?_ ?_
      rotate_left
      ·go_simp
       rfl
      refine hK.out _ _ ⟨((cell_far (p := ⟨gb179, _, none⟩) Bb_3 _).trans (((cell_far (p := ⟨gb179, _, none⟩) Bb_3 _).trans (((cell_far (p := ⟨gb179, _, none⟩) Bb_3 _).trans (hHeld.1)))))), ((cell_far (p := ⟨gb179, _, none⟩) Bb_3 _).trans (((cell_far (p := ⟨gb179, _, none⟩) Bb_3 _).trans (((cell_far (p := ⟨gb179, _, none⟩) Bb_3 _).trans (hHeld.2.1)))))), ((cell_far (p := ⟨gb179, _, none⟩) Bb_3 _).trans (((cell_far (p := ⟨gb179, _, none⟩) Bb_3 _).trans (((cell_far (p := ⟨gb179, _, none⟩) Bb_3 _).trans (hHeld.2.2))))))⟩ (fun hHeld => ?_)
      clear hK K
      refine done_ (done_of HT_.out (by kernel_rfl)) ?_
      have hnb76 := NB179_163.out
      have hnc76 := NB163_179.out
      have hcz77_0 : w69.cell? ⟨gb179, 0, none⟩ = some (.slice none 0 0) := (blk_cell BK179.out 0).trans rfl
      have hcz77_1 : w69.cell? ⟨gb179, 1, none⟩ = some (.slice none 0 0) := (blk_cell BK179.out 1).trans rfl
      have hcz77_2 : w69.cell? ⟨gb179, 2, none⟩ = some (.slice none 0 0) := (blk_cell BK179.out 2).trans rfl
      have hfz77_0 := blk_frozen BK179.out 0
      have hfz77_1 := blk_frozen BK179.out 1
      have hfz77_2 := blk_frozen BK179.out 2
      try go_wp2_with (first | ((with_reducible refine gate_callee (f := 23) rfl ?_); refine goesL_ (some 29) rfl rfl Try.func23 (by kernel_rfl) rfl #[.agg #[.slice Ao72 t168.length co72, .slice Ao71 t172.length co71, .slice Ao70 t176.length co70]] rfl Bb_4 ?_; (with_reducible refine (impl_LayoutText.calls k _ _ t168 _ _ t172 _ _ t176 t180 false _ ?side1 ?side2 ?side3 ?side4 ?side5 ?side6 A10.out).mono ?_); (case side1 => refine (Kd.R_reads' (e := 3) (base := w.heap.size) (ok := fun k_ => (some k_ ≠ (.slice Ao71 t172.length co71 : Value).ownBlock ∧ some k_ ≠ (.slice Ao70 t176.length co70 : Value).ownBlock)) (n := t168.length) (c := co72) ?_).2.2; exact Bb_25); (case side2 => exact (Kd.R_reads' HO170.out).2.1); (case side3 => refine (Kd.R_reads' (e := 3) (base := w.heap.size) (ok := fun k_ => (some k_ ≠ (.slice Ao72 t168.length co72 : Value).ownBlock ∧ some k_ ≠ (.slice Ao70 t176.length co70 : Value).ownBlock)) (n := t172.length) (c := co71) ?_).2.2; exact Bb_26); (case side4 => exact (Kd.R_reads' HO174.out).2.1); (case side5 => refine (Kd.R_reads' (e := 3) (base := w.heap.size) (ok := fun k_ => (some k_ ≠ (.slice Ao72 t168.length co72 : Value).ownBlock ∧ some k_ ≠ (.slice Ao71 t172.length co71 : Value).ownBlock)) (n := t176.length) (c := co70) ?_).2.2; exact Bb_27); (case side6 => exact (Kd.R_reads' HO178.out).2.1); rintro e w78 ⟨rfl, hb⟩; refine ⟨_, rfl, ?_⟩; have n0_ := Aside0.mk (Kd.R_below (by (with_reducible repeat (first | apply Kd.R_alloc | apply Kd.R_drewN | apply Kd.R_drew)); exact (Kd.R_mono (Kd.R_far (p := ⟨gb179, 2, none⟩) (Kd.R_far (p := ⟨gb179, 1, none⟩) (Kd.R_far (p := ⟨gb179, 0, none⟩) (Kd.R_types HO166.out BK179.out (by decide)) (fun _ hk => hk.2) (.slice Ao72 t168.length co72)) (fun _ hk => hk.2) (.slice Ao71 t172.length co71)) (fun _ hk => hk.2) (.slice Ao70 t176.length co70)) (fun _ h_ => h_.1))) hb); have n1_ := Aside0.mk (Kd.R_below Bb_25 hb); have n2_ := Aside0.mk (Kd.R_below Bb_26 hb); have n3_ := Aside0.mk (Kd.R_below Bb_27 hb); have n4_ := Aside0.mk (blk_below (g := gb163) (o := .cells #[.slice none 0 0, .slice none 0 0, .slice none 0 0] 39 (0, 0)) Bb_16 hb); have n5_ := Aside0.mk (blk_below (g := gb179) (o := .cells #[.slice Ao72 t168.length co72, .slice Ao71 t172.length co71, .slice Ao70 t176.length co70] 39 (0, 0)) (by (with_reducible repeat (first | refine blk_drewN ?_ _ | refine blk_drew ?_ | refine blk_alloc ?_ _)); refine blk_put (cs := #[.slice Ao72 t168.length co72, .slice Ao71 t172.length co71, .slice none 0 0]) ?_ 2 _ rfl; (with_reducible repeat (first | refine blk_drewN ?_ _ | refine blk_drew ?_ | refine blk_alloc ?_ _)); refine blk_put (cs := #[.slice Ao72 t168.length co72, .slice none 0 0, .slice none 0 0]) ?_ 1 _ rfl; (with_reducible repeat (first | refine blk_drewN ?_ _ | refine blk_drew ?_ | refine blk_alloc ?_ _)); refine blk_put (cs := #[.slice none 0 0, .slice none 0 0, .slice none 0 0]) ?_ 0 _ rfl; (with_reducible repeat (first | refine blk_drewN ?_ _ | refine blk_drew ?_ | refine blk_alloc ?_ _)); exact BK179.out) hb); have n6_ := Aside0.mk (below_step Bb_1 hb); clear HO166; clear HO170; clear HO174; clear HO178; clear BK163; clear BK179; clear HB; have HO166 := n0_; have HO170 := n1_; have HO174 := n2_; have HO178 := n3_; have BK163 := n4_; have BK179 := n5_; have HB := n6_; clear n0_ n1_ n2_ n3_ n4_ n5_ n6_; (try clear hb); (try clear hb2); (try clear hk); (try clear hi); have hcz79_0 : w78.cell? ⟨gb163, 0, none⟩ = some (.slice none 0 0) := (blk_cell BK163.out 0).trans rfl; have hcz79_1 : w78.cell? ⟨gb163, 1, none⟩ = some (.slice none 0 0) := (blk_cell BK163.out 1).trans rfl; have hcz79_2 : w78.cell? ⟨gb163, 2, none⟩ = some (.slice none 0 0) := (blk_cell BK163.out 2).trans rfl; have hfz79_0 := blk_frozen BK163.out 0; have hfz79_1 := blk_frozen BK163.out 1; have hfz79_2 := blk_frozen BK163.out 2))
      refine bodyPost_ret (results_ct rfl _ _ gb163 39 #[.slice none 0 0, .slice none 0 0, .slice none 0 0] (0, 0) _ rfl Bb_14 Try.underlying39 rfl (by kernel_rfl)) rfl ?_
      exact ⟨_, _, _, by first | rfl | (simp [errW_none, errW_some] <;> rfl) | (simp [*, errW_none, errW_some] <;> rfl), by first | exact Kd.R_nil _ _ _ _ _ | exact Kd.N_nil _ _ _ _ _ | exact Kd.V_nil _ _ _ _ _ | exact Kd.Q_nil _ _ _ _ _ | exact Kd.S_nil _ _ _ _ _, by first | exact Kd.R_nil _ _ _ _ _ | exact Kd.N_nil _ _ _ _ _ | exact Kd.V_nil _ _ _ _ _ | exact Kd.Q_nil _ _ _ _ _ | exact Kd.S_nil _ _ _ _ _, by first | exact Kd.R_nil _ _ _ _ _ | exact Kd.N_nil _ _ _ _ _ | exact Kd.V_nil _ _ _ _ _ | exact Kd.Q_nil _ _ _ _ _ | exact Kd.S_nil _ _ _ _ _, by repeat (first | (with_reducible first | exact HB.out | apply below_alloc | apply pw_below_drewN | apply below_drew1 | refine below_set ?_ GE163.out | refine below_set ?_ GE179.out) | exact HB.out)⟩
    ·rw [if_neg c8] at H
     exact absurd H (by simp)
   ·rw [if_neg c6] at H
    exact absurd H (by simp)
  ·rw [if_neg c4] at H
   exact absurd H (by simp)
 ·rw [if_neg c3] at H
  have c3b0 : ((t164.length : Int) == 3) = false := beq_eq_false_iff_ne.mpr c3
  have c3b1 : ((t164.length : Int) != 3) = true := bne_iff_ne.mpr c3
  simp only [Option.some.injEq, Prod.mk.injEq] at H
  obtain ⟨rfl, rfl, rfl, rfl⟩ := H
  go_enter Try.func24, Try.ntmps24
  go_wp2_with (first | ((with_reducible refine gate_dst (N := 2) rfl ?_); refine box_event ?hg (N := 2) ?hd (cs := #[.slice none 0 0, .slice none 0 0, .slice none 0 0]) (t := 39) ?hr ?_; (case hd => rfl); (case hg => rfl); (case hr => first | (go_simp; done) | (go_simp; rfl)); intro gb163 hg w80 hbox hb; have n0_ := Aside0.mk (below_step Bb_5 hb); have n1_ := Aside0.mk (hbox); have n2_ := Aside0.mk ((by rw [hg]; exact (below_size Bb_5) : w.heap.size ≤ gb163)); have n3_ := Aside0.mk ((by rw [hg]; exact (below_size Bb_5) : w.heap.size ≤ gb163)); clear HB; have HB := n0_; have BK163 := n1_; have GW163 := n2_; have GE163 := n3_; clear n0_ n1_ n2_ n3_; clear hb hbox hg) | ((with_reducible refine gate_callee (f := 75) rfl ?_); refine goesL_ (some 9) rfl rfl Try.func75 (by kernel_rfl) rfl #[.string a0, .int .u8 47] rfl Bb_4 ?_; (with_reducible refine (impl_cut.calls k a0 47 t164 _ A2.out).mono ?_); rintro e w81 ⟨v165, rfl, ho0, hb⟩; refine ⟨_, rfl, ?_⟩; have n0_ := Aside0.mk (Kd.R_lower ho0 (below_size Bb_0)); have n1_ := Aside0.mk (blk_below (g := gb163) (o := .cells #[.slice none 0 0, .slice none 0 0, .slice none 0 0] 39 (0, 0)) Bb_2 hb); have n2_ := Aside0.mk (below_step Bb_0 hb); clear BK163; clear HB; have HO166 := n0_; have BK163 := n1_; have HB := n2_; clear n0_ n1_ n2_; (try clear hb); (try clear hb2); (try clear hk); (try clear hi); (try clear ho0); obtain ⟨Ao82, co82, eo82⟩ := Kd.R_slice HO166.out; subst eo82; have hcz83_0 : w81.cell? ⟨gb163, 0, none⟩ = some (.slice none 0 0) := (blk_cell BK163.out 0).trans rfl; have hcz83_1 : w81.cell? ⟨gb163, 1, none⟩ = some (.slice none 0 0) := (blk_cell BK163.out 1).trans rfl; have hcz83_2 : w81.cell? ⟨gb163, 2, none⟩ = some (.slice none 0 0) := (blk_cell BK163.out 2).trans rfl; have hfz83_0 := blk_frozen BK163.out 0; have hfz83_1 := blk_frozen BK163.out 1; have hfz83_2 := blk_frozen BK163.out 2))
  refine bodyPost_ret (results_ct rfl _ _ gb163 39 #[.slice none 0 0, .slice none 0 0, .slice none 0 0] (0, 0) _ rfl Bb_14 Try.underlying39 rfl (by kernel_rfl)) rfl ?_
  exact ⟨_, _, _, by first | rfl | (simp [errW_none, errW_some] <;> rfl) | (simp [*, errW_none, errW_some] <;> rfl), by first | exact Kd.R_nil _ _ _ _ _ | exact Kd.N_nil _ _ _ _ _ | exact Kd.V_nil _ _ _ _ _ | exact Kd.Q_nil _ _ _ _ _ | exact Kd.S_nil _ _ _ _ _, by first | exact Kd.R_nil _ _ _ _ _ | exact Kd.N_nil _ _ _ _ _ | exact Kd.V_nil _ _ _ _ _ | exact Kd.Q_nil _ _ _ _ _ | exact Kd.S_nil _ _ _ _ _, by first | exact Kd.R_nil _ _ _ _ _ | exact Kd.N_nil _ _ _ _ _ | exact Kd.V_nil _ _ _ _ _ | exact Kd.Q_nil _ _ _ _ _ | exact Kd.S_nil _ _ _ _ _, by repeat (first | (with_reducible first | exact HB.out | apply below_alloc | apply pw_below_drewN | apply below_drew1 | refine below_set ?_ GE163.out) | exact HB.out)⟩
end Go.Proofs.Ytjmhhgnknjfnlaa.PFnExactReadLayout
namespace Go.Proofs.Ytjmhhgnknjfnlaa.PFnExactReadLayout
open Go.RowKit Go.Proofs.YtjmhhgnknjfnlaaW.PrintWords Go.Proofs.YtjmhhgnknjfnlaaW.PrintLast Go.Proofs.YtjmhhgnknjfnlaaW.PrintMore
attribute [local go_sem] max2_int min2_int max_two min_two max_three min_three max_four min_four
set_option linter.unusedVariables false
set_option linter.unusedSimpArgs false
def spec_l25Cut.l0 : Nat → ByteArray → Int → List ByteArray → Int → Int → Option (List ByteArray)
 | 0, _, _, _, _, _ => none
 | k + 1, x0, x1, x5, x6, x7 => if x7 ≤ (x0.size : Int) then (if x7 = (x0.size : Int) then (if 0 ≤ x6 then (if x6 ≤ x7 then (if x5.length < 8796093022208 then (spec_l25Cut.l0 k x0 x1 (x5 ++ [x0.extract (x6 : Int).toNat (x7 : Int).toNat]) (wrap64 (x7 + 1)) (wrap64 (x7 + 1))) else (none)) else (none)) else (none)) else (if 0 ≤ x7 then (if x7 < (x0.size : Int) then (if (bt x0 x7) = x1 then (if 0 ≤ x6 then (if x6 ≤ x7 then (if x5.length < 8796093022208 then (spec_l25Cut.l0 k x0 x1 (x5 ++ [x0.extract (x6 : Int).toNat (x7 : Int).toNat]) (wrap64 (x7 + 1)) (wrap64 (x7 + 1))) else (none)) else (none)) else (none)) else (spec_l25Cut.l0 k x0 x1 x5 x6 (wrap64 (x7 + 1)))) else (none)) else (none))) else (some x5)
def spec_l25Cut.f (k : Nat) (a0 : ByteArray) (a1 : Int) : Option (List ByteArray) := spec_l25Cut.l0 k a0 a1 (([] : List ByteArray)) 0 0
theorem spec_l25Cut.mono_l : ∀ k, (∀ y0 y1 y2 y3 y4, LeO (spec_l25Cut.l0 k y0 y1 y2 y3 y4) (spec_l25Cut.l0 (k + 1) y0 y1 y2 y3 y4))
 | 0 => fun _ _ _ _ _ r h => by simp [spec_l25Cut.l0] at h
 | k + 1 => by
  have ih0 := spec_l25Cut.mono_l k
  ·intro y0 y1 y2 y3 y4
   unfold spec_l25Cut.l0
   repeat' first
   | (with_reducible exact ih0 _ _ _ _ _)
   | (with_reducible exact LeO.refl _)
   | (with_reducible exact LeO.none _)
   | (with_reducible refine LeO.ite ?_ ?_)
   | (with_reducible refine LeO.bind ?_ (fun _ => ?_))
   | exact ih0 _ _ _ _ _
   | exact LeO.none _
   | refine LeO.ite ?_ ?_
   | refine LeO.bind ?_ (fun _ => ?_)
theorem spec_l25Cut.mono : ∀ a0 a1 k, LeO (spec_l25Cut.f k a0 a1) (spec_l25Cut.f (k + 1) a0 a1) := by
 intro a0 a1 k
 have ih0 := spec_l25Cut.mono_l k
 unfold spec_l25Cut.f
 repeat' first
   | (with_reducible exact ih0 _ _ _ _ _)
   | (with_reducible exact LeO.refl _)
   | (with_reducible exact LeO.none _)
   | (with_reducible refine LeO.ite ?_ ?_)
   | (with_reducible refine LeO.bind ?_ (fun _ => ?_))
   | exact ih0 _ _ _ _ _
   | exact LeO.none _
   | refine LeO.ite ?_ ?_
   | refine LeO.bind ?_ (fun _ => ?_)
set_option maxHeartbeats 8000000 in
set_option maxRecDepth 100000 in
theorem spec_l25Cut.calls (k : Nat) (a0 : ByteArray) (a1 : Int) (r : List ByteArray) (w : World) (h : spec_l25Cut.f k a0 a1 = some r) :
  Calls Try.prog 97 #[.string a0, .int .u8 a1] w fun e w' => ∃ v0_ : Value, e = .returned (v0_) ∧ Kd.R Kd.string 9 w' w.heap.size (fun _ => True) v0_ r ∧ Below w.heap.size w w' := by
 have HB := Aside0.mk (Below.refl w.heap.size w)
 have H : (spec_l25Cut.l0 k a0 a1 (([] : List ByteArray)) 0 0) = some r := h
 clear h
 obtain ⟨y182, hy182⟩ : ∃ y_ : List ByteArray, y_ = (([] : List ByteArray)) := ⟨_, rfl⟩
 replace H : (spec_l25Cut.l0 k a0 a1 y182 0 0) = some r := by first | (rw [hy182]; with_reducible exact H) | (have H2_ := (Option.bind_some _ _).symm.trans H; rw [hy182]; with_reducible exact H2_) | (have H2_ := (Option.bind_some _ _).symm.trans H; with_reducible exact H2_) | with_reducible exact H | (rw [hy182]; exact H) | exact H
 have Ny182 := Aside0.mk hy182
 clear hy182
 have H' := Aside0.mk H
 clear H
 go_enter Try.func97, Try.ntmps97
 go_wp2_with (first | ((with_reducible refine gate_dst (N := 8) rfl ?_); refine Kd.R_lit Kd.string _ 9 ?hg (N := 8) ?hd (xs := ([] : List ByteArray)) (inner := []) (ok := fun _ => True) (okp := fun _ => True) ?hr ?hp (fun _ hk => hk) trivial (Below.refl _ _) (Nat.le_refl _) (by simp) ?_; (case hd => rfl); (case hg => rfl); (case hr => first | (go_simp; done) | (go_simp; rfl)); (case hp => exact (Reps.none _ _)); intro v183 w3 ho4 hb hg_ hnew_; clear hg_ hnew_; (first | rw [← Ny182.out] at ho4 | (simp only [Int.reduceToNat] at ho4; rw [← Ny182.out] at ho4)); have n0_ := Aside0.mk (Kd.R_lower ho4 (below_size Bb_5)); have n1_ := Aside0.mk (below_step Bb_5 hb); clear HB; have HO184 := n0_; have HB := n1_; clear n0_ n1_; clear hb ho4))
 go_loopg [5, 6, 7] k (fun kq v5 v6 v7 w' => ∃ (x5_1 : List ByteArray) (x6_1 : Int) (x7_1 : Int), v6 = .int .i64 x6_1 ∧ v7 = .int .i64 x7_1 ∧ Aside0 (spec_l25Cut.l0 kq a0 a1 x5_1 x6_1 x7_1 = some r) ∧ Aside0 (kq ≤ k) ∧ Aside0 (Kd.R Kd.string 9 w' w.heap.size (fun _ => True) v5 x5_1) ∧ Aside0 (Below w.heap.size w w'))
 case atStart => exact ⟨(y182), (0), (0), Bb_15, Bb_15, H', ⟨Nat.le_refl _⟩, ⟨by (with_reducible repeat (first | apply Kd.R_alloc | apply Kd.R_drewN | apply Kd.R_drew)); exact HO184.out⟩, ⟨by repeat (first | (with_reducible first | exact HB.out | apply below_alloc | apply pw_below_drewN | apply below_drew1) | exact HB.out)⟩⟩
 case round =>
  clear H'
  try clear p2
  obtain ⟨x5_1, x6_1, x7_1, rfl, rfl, HA, HK1, HO_5, HB⟩ := hrel
  cases gk with
  | zero => exact absurd HA.out (by simp [spec_l25Cut.l0])
  | succ k1 =>
   have H := HA.out
   clear HA
   simp only [spec_l25Cut.l0] at H
   by_cases c5 : x7_1 ≤ (a0.size : Int)
   ·rw [if_pos c5] at H
    have c5b0 : decide (x7_1 ≤ (a0.size : Int)) = true := decide_eq_true c5
    clear c5
    by_cases c6 : x7_1 = (a0.size : Int)
    ·rw [if_pos c6] at H
     have c6b0 : (x7_1 == (a0.size : Int)) = true := beq_iff_eq.mpr c6
     have c6b1 : (x7_1 != (a0.size : Int)) = false := bne_eq_false_iff_eq.mpr c6
     clear c6
     by_cases c7 : 0 ≤ x6_1
     ·rw [if_pos c7] at H
      have c7b0 := eq_true c7
      have c7b1 : decide (0 ≤ x6_1) = true := decide_eq_true c7
      clear c7
      by_cases c8 : x6_1 ≤ x7_1
      ·rw [if_pos c8] at H
       have c8b0 := eq_true c8
       have c8b1 : decide (x6_1 ≤ x7_1) = true := decide_eq_true c8
       clear c8
       have c9b0 := eq_true (of_decide_eq_true Bb_10 : x7_1 ≤ (a0.size : Int))
       by_cases c10 : x5_1.length < 8796093022208
       ·rw [if_pos c10] at H
        have LMc10 := Aside0.mk c10
        clear c10
        obtain ⟨y185, hy185⟩ : ∃ y_ : List ByteArray, y_ = (x5_1 ++ [a0.extract (x6_1 : Int).toNat (x7_1 : Int).toNat]) := ⟨_, rfl⟩
        replace H : (spec_l25Cut.l0 k1 a0 a1 y185 (wrap64 (x7_1 + 1)) (wrap64 (x7_1 + 1))) = some r := by first | (rw [hy185]; with_reducible exact H) | (have H2_ := (Option.bind_some _ _).symm.trans H; rw [hy185]; with_reducible exact H2_) | (have H2_ := (Option.bind_some _ _).symm.trans H; with_reducible exact H2_) | with_reducible exact H | (rw [hy185]; exact H) | exact H
        have Ny185 := Aside0.mk hy185
        clear hy185
        have H' := Aside0.mk H
        clear H
        go_wp2_with (first | ((with_reducible refine gate_builtin (b := .append) (xs := #[.tmp 26, .tmp 31]) rfl ?_); at_builtin; refine Kd.R_append Kd.string (w0 := w) w.heap.size rfl (.tmp 26) (.tmp 31) 121 9 (.string ⟨#[]⟩) 16 rfl Try.underlying121 info9 rfl (by decide) (by omega) u5 x5_1 (a0.extract (x6_1 : Int).toNat (x7_1 : Int).toNat) [.string (a0.extract (x6_1 : Int).toNat (x7_1 : Int).toNat)] (fun _ => True) (fun _ => False) rfl rfl ?aP (fun _ hk => hk.elim) ?aF ?aO ?aB ?aS ?aL ?_; (case aP => exact rfl); (case aB => exact Bb_5); (case aF => exact (fun _ _ => trivial)); (case aO => exact Bb_33); (case aS => exact (below_size Bb_5)); (case aL => have := LMc10.out; omega); intro v186 w11 ho hb hg hat; rw [← Ny185.out] at ho; have n0_ := Aside0.mk (hb); have n1_ := Aside0.mk (ho); clear HB; clear HO_5; have HB := n0_; have HO187 := n1_; clear n0_ n1_; clear ho hb hg hat))
        go_roundg k1
        case measure => have := HK1.out; omega
        case rel => exact ⟨(y185), (wrap64 (x7_1 + 1)), (wrap64 (x7_1 + 1)), Bb_15, Bb_15, H', ⟨by have := HK1.out; omega⟩, ⟨by (with_reducible repeat (first | apply Kd.R_alloc | apply Kd.R_drewN | apply Kd.R_drew)); exact HO187.out⟩, ⟨by repeat (first | (with_reducible first | exact HB.out | apply below_alloc | apply pw_below_drewN | apply below_drew1) | exact HB.out)⟩⟩
       ·rw [if_neg c10] at H
        exact absurd H (by simp)
      ·rw [if_neg c8] at H
       exact absurd H (by simp)
     ·rw [if_neg c7] at H
      exact absurd H (by simp)
    ·rw [if_neg c6] at H
     have c6b0 : (x7_1 == (a0.size : Int)) = false := beq_eq_false_iff_ne.mpr c6
     have c6b1 : (x7_1 != (a0.size : Int)) = true := bne_iff_ne.mpr c6
     by_cases c12 : 0 ≤ x7_1
     ·rw [if_pos c12] at H
      have c12b0 : decide (0 ≤ x7_1) = true := decide_eq_true c12
      clear c12
      by_cases c13 : x7_1 < (a0.size : Int)
      ·rw [if_pos c13] at H
       have c13b0 : decide (x7_1 < (a0.size : Int)) = true := decide_eq_true c13
       clear c13
       by_cases c15 : (bt a0 x7_1) = a1
       ·rw [if_pos c15] at H
        have c15b0 : ((bt a0 x7_1) == a1) = true := beq_iff_eq.mpr c15
        have c15b1 : ((bt a0 x7_1) != a1) = false := bne_eq_false_iff_eq.mpr c15
        clear c15
        by_cases c16 : 0 ≤ x6_1
        ·rw [if_pos c16] at H
         have c16b0 := eq_true c16
         have c16b1 : decide (0 ≤ x6_1) = true := decide_eq_true c16
         clear c16
         by_cases c17 : x6_1 ≤ x7_1
         ·rw [if_pos c17] at H
          have c17b0 := eq_true c17
          have c17b1 : decide (x6_1 ≤ x7_1) = true := decide_eq_true c17
          clear c17
          have c18b0 := eq_true (of_decide_eq_true Bb_10 : x7_1 ≤ (a0.size : Int))
          by_cases c19 : x5_1.length < 8796093022208
          ·rw [if_pos c19] at H
           have LMc19 := Aside0.mk c19
           clear c19
           obtain ⟨y188, hy188⟩ : ∃ y_ : List ByteArray, y_ = (x5_1 ++ [a0.extract (x6_1 : Int).toNat (x7_1 : Int).toNat]) := ⟨_, rfl⟩
           replace H : (spec_l25Cut.l0 k1 a0 a1 y188 (wrap64 (x7_1 + 1)) (wrap64 (x7_1 + 1))) = some r := by first | (rw [hy188]; with_reducible exact H) | (have H2_ := (Option.bind_some _ _).symm.trans H; rw [hy188]; with_reducible exact H2_) | (have H2_ := (Option.bind_some _ _).symm.trans H; with_reducible exact H2_) | with_reducible exact H | (rw [hy188]; exact H) | exact H
           have Ny188 := Aside0.mk hy188
           clear hy188
           have H' := Aside0.mk H
           clear H
           have p14 : 0 ≤ (x7_1 : Int) := of_decide_eq_true Bb_10
           have q14 : x7_1 < (a0.size : Int) := of_decide_eq_true Bb_10
           have hx14 := bt_at a0 x7_1
           replace p14 := eq_true p14
           replace q14 := eq_true q14
           go_wp2_with (first | ((with_reducible refine gate_builtin (b := .append) (xs := #[.tmp 26, .tmp 31]) rfl ?_); at_builtin; refine Kd.R_append Kd.string (w0 := w) w.heap.size rfl (.tmp 26) (.tmp 31) 121 9 (.string ⟨#[]⟩) 16 rfl Try.underlying121 info9 rfl (by decide) (by omega) u5 x5_1 (a0.extract (x6_1 : Int).toNat (x7_1 : Int).toNat) [.string (a0.extract (x6_1 : Int).toNat (x7_1 : Int).toNat)] (fun _ => True) (fun _ => False) rfl rfl ?aP (fun _ hk => hk.elim) ?aF ?aO ?aB ?aS ?aL ?_; (case aP => exact rfl); (case aB => exact Bb_5); (case aF => exact (fun _ _ => trivial)); (case aO => exact Bb_33); (case aS => exact (below_size Bb_5)); (case aL => have := LMc19.out; omega); intro v189 w20 ho hb hg hat; rw [← Ny188.out] at ho; have n0_ := Aside0.mk (hb); have n1_ := Aside0.mk (ho); clear HB; clear HO_5; have HB := n0_; have HO190 := n1_; clear n0_ n1_; clear ho hb hg hat))
           go_roundg k1
           case measure => have := HK1.out; omega
           case rel => exact ⟨(y188), (wrap64 (x7_1 + 1)), (wrap64 (x7_1 + 1)), Bb_15, Bb_15, H', ⟨by have := HK1.out; omega⟩, ⟨by (with_reducible repeat (first | apply Kd.R_alloc | apply Kd.R_drewN | apply Kd.R_drew)); exact HO190.out⟩, ⟨by repeat (first | (with_reducible first | exact HB.out | apply below_alloc | apply pw_below_drewN | apply below_drew1) | exact HB.out)⟩⟩
          ·rw [if_neg c19] at H
           exact absurd H (by simp)
         ·rw [if_neg c17] at H
          exact absurd H (by simp)
        ·rw [if_neg c16] at H
         exact absurd H (by simp)
       ·rw [if_neg c15] at H
        have c15b0 : ((bt a0 x7_1) == a1) = false := beq_eq_false_iff_ne.mpr c15
        have c15b1 : ((bt a0 x7_1) != a1) = true := bne_iff_ne.mpr c15
        have H' := Aside0.mk H
        clear H
        have p14 : 0 ≤ (x7_1 : Int) := of_decide_eq_true Bb_10
        have q14 : x7_1 < (a0.size : Int) := of_decide_eq_true Bb_10
        have hx14 := bt_at a0 x7_1
        replace p14 := eq_true p14
        replace q14 := eq_true q14
        go_wp2
        go_roundg k1
        case measure => have := HK1.out; omega
        case rel => exact ⟨(x5_1), (x6_1), (wrap64 (x7_1 + 1)), Bb_15, Bb_15, H', ⟨by have := HK1.out; omega⟩, ⟨by (with_reducible repeat (first | apply Kd.R_alloc | apply Kd.R_drewN | apply Kd.R_drew)); exact HO_5.out⟩, ⟨by repeat (first | (with_reducible first | exact HB.out | apply below_alloc | apply pw_below_drewN | apply below_drew1) | exact HB.out)⟩⟩
      ·rw [if_neg c13] at H
       exact absurd H (by simp)
     ·rw [if_neg c12] at H
      exact absurd H (by simp)
   ·rw [if_neg c5] at H
    have c5b0 : decide (x7_1 ≤ (a0.size : Int)) = false := decide_eq_false c5
    clear c5
    obtain rfl := Option.some.inj H
    go_wp2
    go_ret
    exact ⟨_, by first | rfl | (simp [errW_none, errW_some] <;> rfl) | (simp [*, errW_none, errW_some] <;> rfl), by (with_reducible repeat (first | apply Kd.R_alloc | apply Kd.R_drewN | apply Kd.R_drew)); exact HO_5.out, by repeat (first | (with_reducible first | exact HB.out | apply below_alloc | apply pw_below_drewN | apply below_drew1) | exact HB.out)⟩
end Go.Proofs.Ytjmhhgnknjfnlaa.PFnExactReadLayout
namespace Go.Proofs.Ytjmhhgnknjfnlaa.PFnExactReadLayout
open Go.RowKit Go.Proofs.YtjmhhgnknjfnlaaW.PrintWords Go.Proofs.YtjmhhgnknjfnlaaW.PrintLast Go.Proofs.YtjmhhgnknjfnlaaW.PrintMore
attribute [local go_sem] max2_int min2_int max_two min_two max_three min_three max_four min_four
set_option linter.unusedVariables false
set_option linter.unusedSimpArgs false
def spec_l01Figure.f (a0 : Int) : Option (Int) := if a0 < 10 then (some ((wrap64 (48 + a0)) % 256)) else (some ((wrap64 ((wrap64 (97 + a0)) - 10)) % 256))
set_option maxHeartbeats 8000000 in
set_option maxRecDepth 100000 in
theorem spec_l01Figure.calls (a0 : Int) (r : Int) (w : World) (h : spec_l01Figure.f a0 = some r) :
  Calls Try.prog 166 #[.int .i64 a0] w fun e w' => e = .returned (.int .u8 r) ∧ Drawn0 w w' := by
 have H : (if a0 < 10 then (some ((wrap64 (48 + a0)) % 256)) else (some ((wrap64 ((wrap64 (97 + a0)) - 10)) % 256))) = some r := h
 clear h
 by_cases c2 : a0 < 10
 ·rw [if_pos c2] at H
  have c2b0 : decide (a0 < 10) = true := decide_eq_true c2
  clear c2
  obtain rfl := Option.some.inj H
  go_enter Try.func166, Try.ntmps166
  go_wp2
  go_ret
  exact ⟨by first | rfl | (simp; done) | (simp [*]; done), by repeat (first | exact Drawn0.refl _ | apply Drawn0.step)⟩
 ·rw [if_neg c2] at H
  have c2b0 : decide (a0 < 10) = false := decide_eq_false c2
  clear c2
  obtain rfl := Option.some.inj H
  go_enter Try.func166, Try.ntmps166
  go_wp2
  go_ret
  exact ⟨by first | rfl | (simp; done) | (simp [*]; done), by repeat (first | exact Drawn0.refl _ | apply Drawn0.step)⟩
end Go.Proofs.Ytjmhhgnknjfnlaa.PFnExactReadLayout
namespace Go.Proofs.Ytjmhhgnknjfnlaa.PFnExactReadLayout
open Go.RowKit Go.Proofs.YtjmhhgnknjfnlaaW.PrintWords Go.Proofs.YtjmhhgnknjfnlaaW.PrintLast Go.Proofs.YtjmhhgnknjfnlaaW.PrintMore
attribute [local go_sem] max2_int min2_int max_two min_two max_three min_three max_four min_four
set_option linter.unusedVariables false
set_option linter.unusedSimpArgs false
def spec_Decimal.l0 : Nat → Int → Bool → ByteArray → Option (ByteArray)
 | 0, _, _, _ => none
 | k + 1, x0, x3, x4 => if x0 = 0 then (if x3 = true then (if 1 + x4.size ≤ 9223372036854775807 then (some ((⟨#[45]⟩ : ByteArray) ++ x4)) else (none)) else (some x4)) else (if (Int.tmod x0 10) < 0 then ((spec_l01Figure.f (wrap64 (-(Int.tmod x0 10)))).bind fun t191 => ((some (([t191] : List Int) : List Int)).bind fun y192 => (if (strOfNums y192).size + x4.size ≤ 9223372036854775807 then (spec_Decimal.l0 k (wrap64 (Int.tdiv x0 10)) x3 ((strOfNums y192) ++ x4)) else (none)))) else ((spec_l01Figure.f (Int.tmod x0 10)).bind fun t195 => ((some (([t195] : List Int) : List Int)).bind fun y196 => (if (strOfNums y196).size + x4.size ≤ 9223372036854775807 then (spec_Decimal.l0 k (wrap64 (Int.tdiv x0 10)) x3 ((strOfNums y196) ++ x4)) else (none)))))
def spec_Decimal.f (k : Nat) (a0 : Int) : Option (ByteArray) := if a0 = 0 then (some (⟨#[48]⟩ : ByteArray)) else (spec_Decimal.l0 k a0 (decide (a0 < 0)) (⟨#[]⟩ : ByteArray))
theorem spec_Decimal.mono_l : ∀ k, (∀ y0 y1 y2, LeO (spec_Decimal.l0 k y0 y1 y2) (spec_Decimal.l0 (k + 1) y0 y1 y2))
 | 0 => fun _ _ _ r h => by simp [spec_Decimal.l0] at h
 | k + 1 => by
  have ih0 := spec_Decimal.mono_l k
  ·intro y0 y1 y2
   unfold spec_Decimal.l0
   repeat' first
   | (with_reducible exact ih0 _ _ _)
   | (with_reducible exact LeO.refl _)
   | (with_reducible exact LeO.none _)
   | (with_reducible refine LeO.ite ?_ ?_)
   | (with_reducible refine LeO.bind ?_ (fun _ => ?_))
   | exact ih0 _ _ _
   | exact LeO.none _
   | refine LeO.ite ?_ ?_
   | refine LeO.bind ?_ (fun _ => ?_)
theorem spec_Decimal.mono : ∀ a0 k, LeO (spec_Decimal.f k a0) (spec_Decimal.f (k + 1) a0) := by
 intro a0 k
 have ih0 := spec_Decimal.mono_l k
 unfold spec_Decimal.f
 repeat' first
   | (with_reducible exact ih0 _ _ _)
   | (with_reducible exact LeO.refl _)
   | (with_reducible exact LeO.none _)
   | (with_reducible refine LeO.ite ?_ ?_)
   | (with_reducible refine LeO.bind ?_ (fun _ => ?_))
   | exact ih0 _ _ _
   | exact LeO.none _
   | refine LeO.ite ?_ ?_
   | refine LeO.bind ?_ (fun _ => ?_)
set_option maxHeartbeats 8000000 in
set_option maxRecDepth 100000 in
theorem spec_Decimal.calls (k : Nat) (a0 : Int) (r : ByteArray) (w : World) (h : spec_Decimal.f k a0 = some r) :
  Calls Try.prog 127 #[.int .i64 a0] w fun e w' => e = .returned (.string r) ∧ Below w.heap.size w w' := by
 have HB := Aside0.mk (Below.refl w.heap.size w)
 have H : (if a0 = 0 then (some (⟨#[48]⟩ : ByteArray)) else (spec_Decimal.l0 k a0 (decide (a0 < 0)) (⟨#[]⟩ : ByteArray))) = some r := h
 clear h
 by_cases c2 : a0 = 0
 ·rw [if_pos c2] at H
  have c2b0 : (a0 == 0) = true := beq_iff_eq.mpr c2
  have c2b1 : (a0 != 0) = false := bne_eq_false_iff_eq.mpr c2
  clear c2
  obtain rfl := Option.some.inj H
  go_enter Try.func127, Try.ntmps127
  go_wp2
  go_ret
  exact ⟨by first | rfl | (simp [errW_none, errW_some] <;> rfl) | (simp [*, errW_none, errW_some] <;> rfl), by repeat (first | (with_reducible first | exact HB.out | apply below_alloc | apply pw_below_drewN | apply below_drew1) | exact HB.out)⟩
 ·rw [if_neg c2] at H
  have c2b0 : (a0 == 0) = false := beq_eq_false_iff_ne.mpr c2
  have c2b1 : (a0 != 0) = true := bne_iff_ne.mpr c2
  have H' := Aside0.mk H
  clear H
  go_enter Try.func127, Try.ntmps127
  go_wp2
  go_loopg [0, 4] k (fun kq v0 v4 w' => ∃ (x0_1 : Int) (x4_1 : ByteArray), v0 = .int .i64 x0_1 ∧ v4 = .string x4_1 ∧ Aside0 (spec_Decimal.l0 kq x0_1 (decide (a0 < 0)) x4_1 = some r) ∧ Aside0 (kq ≤ k) ∧ Aside0 (Below w.heap.size w w'))
  case atStart => exact ⟨(a0), ((⟨#[]⟩ : ByteArray)), Bb_15, Bb_15, H', ⟨Nat.le_refl _⟩, ⟨by repeat (first | (with_reducible first | exact HB.out | apply below_alloc | apply pw_below_drewN | apply below_drew1) | exact HB.out)⟩⟩
  case round =>
   clear H'
   try clear c1; try clear c2; try clear c2b0; try clear c2b1; try clear p2
   obtain ⟨x0_1, x4_1, rfl, rfl, HA, HK1, HB⟩ := hrel
   cases gk with
   | zero => exact absurd HA.out (by simp [spec_Decimal.l0])
   | succ k1 =>
    have H := HA.out
    clear HA
    simp only [spec_Decimal.l0] at H
    by_cases c3 : x0_1 = 0
    ·rw [if_pos c3] at H
     have c3b0 : (x0_1 == 0) = true := beq_iff_eq.mpr c3
     have c3b1 : (x0_1 != 0) = false := bne_eq_false_iff_eq.mpr c3
     clear c3
     by_cases c4 : (decide (a0 < 0)) = true
     ·rw [if_pos c4] at H
      (try (have c4b0 : (a0 < 0) := by simpa using c4))
      have c4b1 : (decide (a0 < 0)) = true := c4
      clear c4
      by_cases c5 : 1 + x4_1.size ≤ 9223372036854775807
      ·rw [if_pos c5] at H
       have c5b0 := eq_true c5
       have c5b1 : decide (1 + x4_1.size ≤ 9223372036854775807) = true := decide_eq_true c5
       try have c5b2 : (9223372036854775807 < 1 + x4_1.size) = False := eq_false (Nat.not_lt.2 c5)
       obtain rfl := Option.some.inj H
       go_wp2
       go_ret
       exact ⟨by first | rfl | (simp [errW_none, errW_some] <;> rfl) | (simp [*, errW_none, errW_some] <;> rfl), by repeat (first | (with_reducible first | exact HB.out | apply below_alloc | apply pw_below_drewN | apply below_drew1) | exact HB.out)⟩
      ·rw [if_neg c5] at H
       exact absurd H (by simp)
     ·rw [if_neg c4] at H
      (try (have c4b0 : ¬ (a0 < 0) := by simpa using c4))
      have c4b1 : (decide (a0 < 0)) = false := by simpa using c4
      clear c4
      obtain rfl := Option.some.inj H
      go_wp2
      go_ret
      exact ⟨by first | rfl | (simp [errW_none, errW_some] <;> rfl) | (simp [*, errW_none, errW_some] <;> rfl), by repeat (first | (with_reducible first | exact HB.out | apply below_alloc | apply pw_below_drewN | apply below_drew1) | exact HB.out)⟩
    ·rw [if_neg c3] at H
     have c3b0 : (x0_1 == 0) = false := beq_eq_false_iff_ne.mpr c3
     have c3b1 : (x0_1 != 0) = true := bne_iff_ne.mpr c3
     by_cases c6 : (Int.tmod x0_1 10) < 0
     ·rw [if_pos c6] at H
      have c6b0 : decide ((Int.tmod x0_1 10) < 0) = true := decide_eq_true c6
      clear c6
      replace H := Option.bind_eq_some_iff.mp H
      obtain ⟨t191, A70, H⟩ := H
      replace H : ((some (([t191] : List Int) : List Int)).bind fun y192 => (if (strOfNums y192).size + x4_1.size ≤ 9223372036854775807 then (spec_Decimal.l0 k1 (wrap64 (Int.tdiv x0_1 10)) (decide (a0 < 0)) ((strOfNums y192) ++ x4_1)) else (none))) = some r := H
      have A7 := Aside0.mk A70
      clear A70
      obtain ⟨y192, hy192⟩ : ∃ y_ : List Int, y_ = (([t191] : List Int)) := ⟨_, rfl⟩
      replace H : (if (strOfNums y192).size + x4_1.size ≤ 9223372036854775807 then (spec_Decimal.l0 k1 (wrap64 (Int.tdiv x0_1 10)) (decide (a0 < 0)) ((strOfNums y192) ++ x4_1)) else (none)) = some r := by first | (rw [hy192]; with_reducible exact H) | (have H2_ := (Option.bind_some _ _).symm.trans H; rw [hy192]; with_reducible exact H2_) | (have H2_ := (Option.bind_some _ _).symm.trans H; with_reducible exact H2_) | with_reducible exact H | (rw [hy192]; exact H) | exact H
      have Ny192 := Aside0.mk hy192
      clear hy192
      by_cases c8 : (strOfNums y192).size + x4_1.size ≤ 9223372036854775807
      ·rw [if_pos c8] at H
       have c8b0 := eq_true c8
       have c8b1 : decide ((strOfNums y192).size + x4_1.size ≤ 9223372036854775807) = true := decide_eq_true c8
       try have c8b2 : (9223372036854775807 < (strOfNums y192).size + x4_1.size) = False := eq_false (Nat.not_lt.2 c8)
       have H' := Aside0.mk H
       clear H
       go_wp2_with (first | ((with_reducible refine gate_callee (f := 166) rfl ?_); refine goesL_ (some 19) rfl rfl Try.func166 (by kernel_rfl) rfl #[.int .i64 (wrap64 (-(Int.tmod x0_1 10)))] rfl Bb_4 ?_; (with_reducible refine (spec_l01Figure.calls (wrap64 (-(Int.tmod x0_1 10))) t191 _ A7.out).mono ?_); rintro e w' ⟨rfl, ⟨nd, rfl⟩⟩; refine ⟨_, rfl, ?_⟩) | ((with_reducible refine gate_dst (N := 20) rfl ?_); refine Kd.R_lit (Kd.int .u8) _ 5 ?hg (N := 20) ?hd (xs := ([t191] : List Int)) (inner := [.int .u8 t191]) (ok := fun _ => True) (okp := fun _ => True) ?hr ?hp (fun _ hk => hk) trivial (Below.refl _ _) (Nat.le_refl _) (by simp) ?_; (case hd => rfl); (case hg => rfl); (case hr => first | (go_simp; done) | (go_simp; rfl)); (case hp => exact (Reps.one (show Kd.M (Kd.int .u8) _ _ _ t191 [.int .u8 t191] from rfl) (Reps.none _ _))); intro v193 w9 ho10 hb hg_ hnew_; clear hg_ hnew_; (first | rw [← Ny192.out] at ho10 | (simp only [Int.reduceToNat] at ho10; rw [← Ny192.out] at ho10)); have n0_ := Aside0.mk (Kd.R_lower ho10 (below_size Bb_5)); have n1_ := Aside0.mk (below_step Bb_5 hb); clear HB; have HO194 := n0_; have HB := n1_; clear n0_ n1_; clear hb ho10; have hcv11 := own_string (P := Try.prog) Try.underlying22 Try.underlying5 Try.underlying9 (Kd.own_of_R HO194.out)))
       go_roundg k1
       case measure => have := HK1.out; omega
       case rel => exact ⟨(wrap64 (Int.tdiv x0_1 10)), ((strOfNums y192) ++ x4_1), Bb_15, Bb_15, H', ⟨by have := HK1.out; omega⟩, ⟨by repeat (first | (with_reducible first | exact HB.out | apply below_alloc | apply pw_below_drewN | apply below_drew1) | exact HB.out)⟩⟩
      ·rw [if_neg c8] at H
       exact absurd H (by simp)
     ·rw [if_neg c6] at H
      have c6b0 : decide ((Int.tmod x0_1 10) < 0) = false := decide_eq_false c6
      clear c6
      replace H := Option.bind_eq_some_iff.mp H
      obtain ⟨t195, A120, H⟩ := H
      replace H : ((some (([t195] : List Int) : List Int)).bind fun y196 => (if (strOfNums y196).size + x4_1.size ≤ 9223372036854775807 then (spec_Decimal.l0 k1 (wrap64 (Int.tdiv x0_1 10)) (decide (a0 < 0)) ((strOfNums y196) ++ x4_1)) else (none))) = some r := H
      have A12 := Aside0.mk A120
      clear A120
      obtain ⟨y196, hy196⟩ : ∃ y_ : List Int, y_ = (([t195] : List Int)) := ⟨_, rfl⟩
      replace H : (if (strOfNums y196).size + x4_1.size ≤ 9223372036854775807 then (spec_Decimal.l0 k1 (wrap64 (Int.tdiv x0_1 10)) (decide (a0 < 0)) ((strOfNums y196) ++ x4_1)) else (none)) = some r := by first | (rw [hy196]; with_reducible exact H) | (have H2_ := (Option.bind_some _ _).symm.trans H; rw [hy196]; with_reducible exact H2_) | (have H2_ := (Option.bind_some _ _).symm.trans H; with_reducible exact H2_) | with_reducible exact H | (rw [hy196]; exact H) | exact H
      have Ny196 := Aside0.mk hy196
      clear hy196
      by_cases c13 : (strOfNums y196).size + x4_1.size ≤ 9223372036854775807
      ·rw [if_pos c13] at H
       have c13b0 := eq_true c13
       have c13b1 : decide ((strOfNums y196).size + x4_1.size ≤ 9223372036854775807) = true := decide_eq_true c13
       try have c13b2 : (9223372036854775807 < (strOfNums y196).size + x4_1.size) = False := eq_false (Nat.not_lt.2 c13)
       have H' := Aside0.mk H
       clear H
       go_wp2_with (first | ((with_reducible refine gate_callee (f := 166) rfl ?_); refine goesL_ (some 19) rfl rfl Try.func166 (by kernel_rfl) rfl #[.int .i64 (Int.tmod x0_1 10)] rfl Bb_4 ?_; (with_reducible refine (spec_l01Figure.calls (Int.tmod x0_1 10) t195 _ A12.out).mono ?_); rintro e w' ⟨rfl, ⟨nd, rfl⟩⟩; refine ⟨_, rfl, ?_⟩) | ((with_reducible refine gate_dst (N := 20) rfl ?_); refine Kd.R_lit (Kd.int .u8) _ 5 ?hg (N := 20) ?hd (xs := ([t195] : List Int)) (inner := [.int .u8 t195]) (ok := fun _ => True) (okp := fun _ => True) ?hr ?hp (fun _ hk => hk) trivial (Below.refl _ _) (Nat.le_refl _) (by simp) ?_; (case hd => rfl); (case hg => rfl); (case hr => first | (go_simp; done) | (go_simp; rfl)); (case hp => exact (Reps.one (show Kd.M (Kd.int .u8) _ _ _ t195 [.int .u8 t195] from rfl) (Reps.none _ _))); intro v197 w14 ho15 hb hg_ hnew_; clear hg_ hnew_; (first | rw [← Ny196.out] at ho15 | (simp only [Int.reduceToNat] at ho15; rw [← Ny196.out] at ho15)); have n0_ := Aside0.mk (Kd.R_lower ho15 (below_size Bb_5)); have n1_ := Aside0.mk (below_step Bb_5 hb); clear HB; have HO198 := n0_; have HB := n1_; clear n0_ n1_; clear hb ho15; have hcv16 := own_string (P := Try.prog) Try.underlying22 Try.underlying5 Try.underlying9 (Kd.own_of_R HO198.out)))
       go_roundg k1
       case measure => have := HK1.out; omega
       case rel => exact ⟨(wrap64 (Int.tdiv x0_1 10)), ((strOfNums y196) ++ x4_1), Bb_15, Bb_15, H', ⟨by have := HK1.out; omega⟩, ⟨by repeat (first | (with_reducible first | exact HB.out | apply below_alloc | apply pw_below_drewN | apply below_drew1) | exact HB.out)⟩⟩
      ·rw [if_neg c13] at H
       exact absurd H (by simp)
end Go.Proofs.Ytjmhhgnknjfnlaa.PFnExactReadLayout
namespace Go.Proofs.Ytjmhhgnknjfnlaa.PFnExactReadLayout
open Go.RowKit Go.Proofs.YtjmhhgnknjfnlaaW.PrintWords Go.Proofs.YtjmhhgnknjfnlaaW.PrintLast Go.Proofs.YtjmhhgnknjfnlaaW.PrintMore
attribute [local go_sem] max2_int min2_int max_two min_two max_three min_three max_four min_four
set_option linter.unusedVariables false
set_option linter.unusedSimpArgs false
def spec_ReadDecimal.l0 : Nat → ByteArray → Int → Int → Option (Int × Bool)
 | 0, _, _, _ => none
 | k + 1, x0, x4, x5 => if x5 < (x0.size : Int) then (if 0 ≤ x5 then (if (bt x0 x5) < 48 then (some (0, false)) else (if (bt x0 x5) > 57 then (some (0, false)) else (spec_ReadDecimal.l0 k x0 (wrap64 ((wrap64 ((wrap64 (10 * x4)) + (wrap64 (bt x0 x5)))) - 48)) (wrap64 (x5 + 1))))) else (none)) else (if x4 > 1000000000 then (some (0, false)) else ((spec_Decimal.f k x4).bind fun t199 => (if t199.toList = x0.toList then (some (x4, true)) else (some (0, false)))))
def spec_ReadDecimal.f (k : Nat) (a0 : ByteArray) : Option (Int × Bool) := if (a0.size : Int) > 10 then (some (0, false)) else (spec_ReadDecimal.l0 k a0 0 0)
theorem spec_ReadDecimal.mono_l : ∀ k, (∀ y0 y1 y2, LeO (spec_ReadDecimal.l0 k y0 y1 y2) (spec_ReadDecimal.l0 (k + 1) y0 y1 y2))
 | 0 => fun _ _ _ r h => by simp [spec_ReadDecimal.l0] at h
 | k + 1 => by
  have ih0 := spec_ReadDecimal.mono_l k
  ·intro y0 y1 y2
   unfold spec_ReadDecimal.l0
   repeat' first
   | (with_reducible exact ih0 _ _ _)
   | (with_reducible exact spec_Decimal.mono _ _)
   | (with_reducible exact LeO.refl _)
   | (with_reducible exact LeO.none _)
   | (with_reducible refine LeO.ite ?_ ?_)
   | (with_reducible refine LeO.bind ?_ (fun _ => ?_))
   | exact ih0 _ _ _
   | exact spec_Decimal.mono _ _
   | exact LeO.none _
   | refine LeO.ite ?_ ?_
   | refine LeO.bind ?_ (fun _ => ?_)
theorem spec_ReadDecimal.mono : ∀ a0 k, LeO (spec_ReadDecimal.f k a0) (spec_ReadDecimal.f (k + 1) a0) := by
 intro a0 k
 have ih0 := spec_ReadDecimal.mono_l k
 unfold spec_ReadDecimal.f
 repeat' first
   | (with_reducible exact ih0 _ _ _)
   | (with_reducible exact spec_Decimal.mono _ _)
   | (with_reducible exact LeO.refl _)
   | (with_reducible exact LeO.none _)
   | (with_reducible refine LeO.ite ?_ ?_)
   | (with_reducible refine LeO.bind ?_ (fun _ => ?_))
   | exact ih0 _ _ _
   | exact spec_Decimal.mono _ _
   | exact LeO.none _
   | refine LeO.ite ?_ ?_
   | refine LeO.bind ?_ (fun _ => ?_)
set_option maxHeartbeats 8000000 in
set_option maxRecDepth 100000 in
theorem spec_ReadDecimal.calls (k : Nat) (a0 : ByteArray) (r1 : Int) (r2 : Bool) (w : World) (h : spec_ReadDecimal.f k a0 = some (r1, r2)) :
  Calls Try.prog 78 #[.string a0] w fun e w' => e = .returned (.tuple #[.int .i64 r1, .bool r2]) ∧ Below w.heap.size w w' := by
 have HB := Aside0.mk (Below.refl w.heap.size w)
 have H : (if (a0.size : Int) > 10 then (some (0, false)) else (spec_ReadDecimal.l0 k a0 0 0)) = some (r1, r2) := h
 clear h
 by_cases c2 : (a0.size : Int) > 10
 ·rw [if_pos c2] at H
  have c2b0 : decide (10 < (a0.size : Int)) = true := decide_eq_true c2
  have c2b1 : decide (10 < a0.size) = true := decide_eq_true (by omega)
  clear c2
  simp only [Option.some.injEq, Prod.mk.injEq] at H
  obtain ⟨rfl, rfl⟩ := H
  go_enter Try.func78, Try.ntmps78
  go_wp2
  go_ret2
  exact ⟨by first | rfl | (simp [errW_none, errW_some] <;> rfl) | (simp [*, errW_none, errW_some] <;> rfl), by repeat (first | (with_reducible first | exact HB.out | apply below_alloc | apply pw_below_drewN | apply below_drew1) | exact HB.out)⟩
 ·rw [if_neg c2] at H
  have c2b0 : decide (10 < (a0.size : Int)) = false := decide_eq_false c2
  have c2b1 : decide (10 < a0.size) = false := decide_eq_false (by omega)
  clear c2
  have H' := Aside0.mk H
  clear H
  go_enter Try.func78, Try.ntmps78
  go_wp2
  go_loopg [4, 5] k (fun kq v4 v5 w' => ∃ (x4_1 : Int) (x5_1 : Int), v4 = .int .i64 x4_1 ∧ v5 = .int .i64 x5_1 ∧ Aside0 (spec_ReadDecimal.l0 kq a0 x4_1 x5_1 = some (r1, r2)) ∧ Aside0 (kq ≤ k) ∧ Aside0 (Below w.heap.size w w'))
  case atStart => exact ⟨(0), (0), Bb_15, Bb_15, H', ⟨Nat.le_refl _⟩, ⟨by repeat (first | (with_reducible first | exact HB.out | apply below_alloc | apply pw_below_drewN | apply below_drew1) | exact HB.out)⟩⟩
  case round =>
   clear H'
   try clear c2; try clear c2b0; try clear c2b1; try clear p2
   obtain ⟨x4_1, x5_1, rfl, rfl, HA, HK1, HB⟩ := hrel
   cases gk with
   | zero => exact absurd HA.out (by simp [spec_ReadDecimal.l0])
   | succ k1 =>
    have H := HA.out
    clear HA
    simp only [spec_ReadDecimal.l0] at H
    by_cases c3 : x5_1 < (a0.size : Int)
    ·rw [if_pos c3] at H
     have c3b0 : decide (x5_1 < (a0.size : Int)) = true := decide_eq_true c3
     clear c3
     by_cases c4 : 0 ≤ x5_1
     ·rw [if_pos c4] at H
      have c4b0 : decide (0 ≤ x5_1) = true := decide_eq_true c4
      clear c4
      by_cases c6 : (bt a0 x5_1) < 48
      ·rw [if_pos c6] at H
       have c6b0 : decide ((bt a0 x5_1) < 48) = true := decide_eq_true c6
       clear c6
       simp only [Option.some.injEq, Prod.mk.injEq] at H
       obtain ⟨rfl, rfl⟩ := H
       have p5 : 0 ≤ (x5_1 : Int) := of_decide_eq_true Bb_10
       have q5 : x5_1 < (a0.size : Int) := of_decide_eq_true Bb_10
       have hx5 := bt_at a0 x5_1
       replace p5 := eq_true p5
       replace q5 := eq_true q5
       go_wp2
       go_ret2
       exact ⟨by first | rfl | (simp [errW_none, errW_some] <;> rfl) | (simp [*, errW_none, errW_some] <;> rfl), by repeat (first | (with_reducible first | exact HB.out | apply below_alloc | apply pw_below_drewN | apply below_drew1) | exact HB.out)⟩
      ·rw [if_neg c6] at H
       have c6b0 : decide ((bt a0 x5_1) < 48) = false := decide_eq_false c6
       clear c6
       by_cases c8 : (bt a0 x5_1) > 57
       ·rw [if_pos c8] at H
        have c8b0 : decide (57 < (bt a0 x5_1)) = true := decide_eq_true c8
        clear c8
        simp only [Option.some.injEq, Prod.mk.injEq] at H
        obtain ⟨rfl, rfl⟩ := H
        have p5 : 0 ≤ (x5_1 : Int) := of_decide_eq_true Bb_10
        have q5 : x5_1 < (a0.size : Int) := of_decide_eq_true Bb_10
        have hx5 := bt_at a0 x5_1
        replace p5 := eq_true p5
        replace q5 := eq_true q5
        have p7 : 0 ≤ (x5_1 : Int) := of_decide_eq_true Bb_10
        have q7 : x5_1 < (a0.size : Int) := of_decide_eq_true Bb_10
        have hx7 := bt_at a0 x5_1
        replace p7 := eq_true p7
        replace q7 := eq_true q7
        go_wp2
        go_ret2
        exact ⟨by first | rfl | (simp [errW_none, errW_some] <;> rfl) | (simp [*, errW_none, errW_some] <;> rfl), by repeat (first | (with_reducible first | exact HB.out | apply below_alloc | apply pw_below_drewN | apply below_drew1) | exact HB.out)⟩
       ·rw [if_neg c8] at H
        have c8b0 : decide (57 < (bt a0 x5_1)) = false := decide_eq_false c8
        clear c8
        have H' := Aside0.mk H
        clear H
        have p5 : 0 ≤ (x5_1 : Int) := of_decide_eq_true Bb_10
        have q5 : x5_1 < (a0.size : Int) := of_decide_eq_true Bb_10
        have hx5 := bt_at a0 x5_1
        replace p5 := eq_true p5
        replace q5 := eq_true q5
        have p7 : 0 ≤ (x5_1 : Int) := of_decide_eq_true Bb_10
        have q7 : x5_1 < (a0.size : Int) := of_decide_eq_true Bb_10
        have hx7 := bt_at a0 x5_1
        replace p7 := eq_true p7
        replace q7 := eq_true q7
        have p9 : 0 ≤ (x5_1 : Int) := of_decide_eq_true Bb_10
        have q9 : x5_1 < (a0.size : Int) := of_decide_eq_true Bb_10
        have hx9 := bt_at a0 x5_1
        replace p9 := eq_true p9
        replace q9 := eq_true q9
        go_wp2
        go_roundg k1
        case measure => have := HK1.out; omega
        case rel => exact ⟨(wrap64 ((wrap64 ((wrap64 (10 * x4_1)) + (wrap64 (bt a0 x5_1)))) - 48)), (wrap64 (x5_1 + 1)), Bb_15, Bb_15, H', ⟨by have := HK1.out; omega⟩, ⟨by repeat (first | (with_reducible first | exact HB.out | apply below_alloc | apply pw_below_drewN | apply below_drew1) | exact HB.out)⟩⟩
     ·rw [if_neg c4] at H
      exact absurd H (by simp)
    ·rw [if_neg c3] at H
     have c3b0 : decide (x5_1 < (a0.size : Int)) = false := decide_eq_false c3
     clear c3
     by_cases c10 : x4_1 > 1000000000
     ·rw [if_pos c10] at H
      have c10b0 : decide (1000000000 < x4_1) = true := decide_eq_true c10
      clear c10
      simp only [Option.some.injEq, Prod.mk.injEq] at H
      obtain ⟨rfl, rfl⟩ := H
      go_wp2
      go_ret2
      exact ⟨by first | rfl | (simp [errW_none, errW_some] <;> rfl) | (simp [*, errW_none, errW_some] <;> rfl), by repeat (first | (with_reducible first | exact HB.out | apply below_alloc | apply pw_below_drewN | apply below_drew1) | exact HB.out)⟩
     ·rw [if_neg c10] at H
      have c10b0 : decide (1000000000 < x4_1) = false := decide_eq_false c10
      clear c10
      replace H := Option.bind_eq_some_iff.mp H
      obtain ⟨t199, A110, H⟩ := H
      replace H : (if t199.toList = a0.toList then (some (x4_1, true)) else (some (0, false))) = some (r1, r2) := H
      have A11 := Aside0.mk A110
      clear A110
      by_cases c12 : t199.toList = a0.toList
      ·rw [if_pos c12] at H
       have c12b0 : (t199.toList == a0.toList) = true := beq_iff_eq.mpr c12
       have c12b1 : (t199.toList != a0.toList) = false := bne_eq_false_iff_eq.mpr c12
       clear c12
       simp only [Option.some.injEq, Prod.mk.injEq] at H
       obtain ⟨rfl, rfl⟩ := H
       go_wp2_with (first | (go_at_call 127; (with_reducible refine (spec_Decimal.calls k1 x4_1 t199 _ A11.out).mono ?_); rintro e w13 ⟨rfl, hb⟩; have n0_ := Aside0.mk (below_step Bb_5 hb); clear HB; have HB := n0_; clear n0_; (try clear hb); (try clear hb2); (try clear hk); (try clear hi)))
       go_ret2
       exact ⟨by first | rfl | (simp [errW_none, errW_some] <;> rfl) | (simp [*, errW_none, errW_some] <;> rfl), by repeat (first | (with_reducible first | exact HB.out | apply below_alloc | apply pw_below_drewN | apply below_drew1) | exact HB.out)⟩
      ·rw [if_neg c12] at H
       have c12b0 : (t199.toList == a0.toList) = false := beq_eq_false_iff_ne.mpr c12
       have c12b1 : (t199.toList != a0.toList) = true := bne_iff_ne.mpr c12
       simp only [Option.some.injEq, Prod.mk.injEq] at H
       obtain ⟨rfl, rfl⟩ := H
       go_wp2_with (first | (go_at_call 127; (with_reducible refine (spec_Decimal.calls k1 x4_1 t199 _ A11.out).mono ?_); rintro e w14 ⟨rfl, hb⟩; have n0_ := Aside0.mk (below_step Bb_5 hb); clear HB; have HB := n0_; clear n0_; (try clear hb); (try clear hb2); (try clear hk); (try clear hi)))
       go_ret2
       exact ⟨by first | rfl | (simp [errW_none, errW_some] <;> rfl) | (simp [*, errW_none, errW_some] <;> rfl), by repeat (first | (with_reducible first | exact HB.out | apply below_alloc | apply pw_below_drewN | apply below_drew1) | exact HB.out)⟩
end Go.Proofs.Ytjmhhgnknjfnlaa.PFnExactReadLayout
namespace Go.Proofs.Ytjmhhgnknjfnlaa.PFnExactReadLayout
open Go.RowKit Go.Proofs.YtjmhhgnknjfnlaaW.PrintWords Go.Proofs.YtjmhhgnknjfnlaaW.PrintLast Go.Proofs.YtjmhhgnknjfnlaaW.PrintMore
attribute [local go_sem] max2_int min2_int max_two min_two max_three min_three max_four min_four
set_option linter.unusedVariables false
set_option linter.unusedSimpArgs false
def spec_l25Read.l0 : Nat → List Int → List ByteArray → Int → Option (List Int)
 | 0, _, _, _ => none
 | k + 1, x3, x4, x5 => if x5 < (x4.length : Int) then (if 0 ≤ x5 then ((spec_ReadDecimal.f k (rdOf ByteArray.empty x4 x5)).bind fun bt207 => (if bt207.2 = true then (if x3.length < 17592186044416 then (spec_l25Read.l0 k (x3 ++ [bt207.1]) x4 (wrap64 (x5 + 1))) else (none)) else (if x3.length < 17592186044416 then (spec_l25Read.l0 k (x3 ++ [(-1)]) x4 (wrap64 (x5 + 1))) else (none)))) else (none)) else (some x3)
def spec_l25Read.f (k : Nat) (a0 : ByteArray) : Option (List Int) := (spec_l25Cut.f k a0 44).bind fun t203 => (spec_l25Read.l0 k (([] : List Int)) t203 0)
theorem spec_l25Read.mono_l : ∀ k, (∀ y0 y1 y2, LeO (spec_l25Read.l0 k y0 y1 y2) (spec_l25Read.l0 (k + 1) y0 y1 y2))
 | 0 => fun _ _ _ r h => by simp [spec_l25Read.l0] at h
 | k + 1 => by
  have ih0 := spec_l25Read.mono_l k
  ·intro y0 y1 y2
   unfold spec_l25Read.l0
   repeat' first
   | (with_reducible exact ih0 _ _ _)
   | (with_reducible exact spec_ReadDecimal.mono _ _)
   | (with_reducible exact spec_l25Cut.mono _ _ _)
   | (with_reducible exact LeO.refl _)
   | (with_reducible exact LeO.none _)
   | (with_reducible refine LeO.ite ?_ ?_)
   | (with_reducible refine LeO.bind ?_ (fun _ => ?_))
   | exact ih0 _ _ _
   | exact spec_ReadDecimal.mono _ _
   | exact spec_l25Cut.mono _ _ _
   | exact LeO.none _
   | refine LeO.ite ?_ ?_
   | refine LeO.bind ?_ (fun _ => ?_)
theorem spec_l25Read.mono : ∀ a0 k, LeO (spec_l25Read.f k a0) (spec_l25Read.f (k + 1) a0) := by
 intro a0 k
 have ih0 := spec_l25Read.mono_l k
 unfold spec_l25Read.f
 repeat' first
   | (with_reducible exact ih0 _ _ _)
   | (with_reducible exact spec_ReadDecimal.mono _ _)
   | (with_reducible exact spec_l25Cut.mono _ _ _)
   | (with_reducible exact LeO.refl _)
   | (with_reducible exact LeO.none _)
   | (with_reducible refine LeO.ite ?_ ?_)
   | (with_reducible refine LeO.bind ?_ (fun _ => ?_))
   | exact ih0 _ _ _
   | exact spec_ReadDecimal.mono _ _
   | exact spec_l25Cut.mono _ _ _
   | exact LeO.none _
   | refine LeO.ite ?_ ?_
   | refine LeO.bind ?_ (fun _ => ?_)
set_option maxHeartbeats 8000000 in
set_option maxRecDepth 100000 in
theorem spec_l25Read.calls (k : Nat) (a0 : ByteArray) (r : List Int) (w : World) (h : spec_l25Read.f k a0 = some r) :
  Calls Try.prog 98 #[.string a0] w fun e w' => ∃ v0_ : Value, e = .returned (v0_) ∧ Kd.R (Kd.int .i64) 3 w' w.heap.size (fun _ => True) v0_ r ∧ Below w.heap.size w w' := by
 have HB := Aside0.mk (Below.refl w.heap.size w)
 have H : ((spec_l25Cut.f k a0 44).bind fun t203 => (spec_l25Read.l0 k (([] : List Int)) t203 0)) = some r := h
 clear h
 obtain ⟨y200, hy200⟩ : ∃ y_ : List Int, y_ = (([] : List Int)) := ⟨_, rfl⟩
 replace H : ((spec_l25Cut.f k a0 44).bind fun t203 => (spec_l25Read.l0 k y200 t203 0)) = some r := by first | (rw [hy200]; with_reducible exact H) | (have H2_ := (Option.bind_some _ _).symm.trans H; rw [hy200]; with_reducible exact H2_) | (have H2_ := (Option.bind_some _ _).symm.trans H; with_reducible exact H2_) | with_reducible exact H | (rw [hy200]; exact H) | exact H
 have Ny200 := Aside0.mk hy200
 clear hy200
 replace H := Option.bind_eq_some_iff.mp H
 obtain ⟨t203, A20, H⟩ := H
 replace H : (spec_l25Read.l0 k y200 t203 0) = some r := H
 have A2 := Aside0.mk A20
 clear A20
 have H' := Aside0.mk H
 clear H
 go_enter Try.func98, Try.ntmps98
 go_wp2_with (first | ((with_reducible refine gate_dst (N := 8) rfl ?_); refine Kd.R_lit (Kd.int .i64) _ 3 ?hg (N := 8) ?hd (xs := ([] : List Int)) (inner := []) (ok := fun _ => True) (okp := fun _ => True) ?hr ?hp (fun _ hk => hk) trivial (Below.refl _ _) (Nat.le_refl _) (by simp) ?_; (case hd => rfl); (case hg => rfl); (case hr => first | (go_simp; done) | (go_simp; rfl)); (case hp => exact (Reps.none _ _)); intro v201 w3 ho4 hb hg_ hnew_; clear hg_ hnew_; (first | rw [← Ny200.out] at ho4 | (simp only [Int.reduceToNat] at ho4; rw [← Ny200.out] at ho4)); have n0_ := Aside0.mk (Kd.R_lower ho4 (below_size Bb_5)); have n1_ := Aside0.mk (below_step Bb_5 hb); clear HB; have HO202 := n0_; have HB := n1_; clear n0_ n1_; clear hb ho4) | ((with_reducible refine gate_callee (f := 97) rfl ?_); refine goesL_ (some 10) rfl rfl Try.func97 (by kernel_rfl) rfl #[.string a0, .int .u8 44] rfl Bb_4 ?_; (with_reducible refine (spec_l25Cut.calls k a0 44 t203 _ A2.out).mono ?_); rintro e w5 ⟨v204, rfl, ho0, hb⟩; refine ⟨_, rfl, ?_⟩; have n0_ := Aside0.mk (Kd.R_below (by (with_reducible repeat (first | apply Kd.R_alloc | apply Kd.R_drewN | apply Kd.R_drew)); exact HO202.out) hb); have n1_ := Aside0.mk (Kd.R_lower ho0 (below_size Bb_5)); have n2_ := Aside0.mk (below_step Bb_5 hb); clear HO202; clear HB; have HO202 := n0_; have HO205 := n1_; have HB := n2_; clear n0_ n1_ n2_; (try clear hb); (try clear hb2); (try clear hk); (try clear hi); (try clear ho0)))
 go_loopg [3, 5] k (fun kq v3 v5 w' => ∃ (x3_1 : List Int) (x5_1 : Int), v5 = .int .i64 x5_1 ∧ Aside0 (spec_l25Read.l0 kq x3_1 t203 x5_1 = some r) ∧ Aside0 (kq ≤ k) ∧ Aside0 (Kd.R (Kd.int .i64) 3 w' w.heap.size (fun _ => True) v3 x3_1) ∧ Aside0 (Kd.R Kd.string 9 w' w.heap.size (fun _ => True) v204 t203) ∧ Aside0 (Below w.heap.size w w'))
 case atStart => exact ⟨(y200), (0), Bb_15, H', ⟨Nat.le_refl _⟩, ⟨by (with_reducible repeat (first | apply Kd.R_alloc | apply Kd.R_drewN | apply Kd.R_drew)); exact HO202.out⟩, ⟨by (with_reducible repeat (first | apply Kd.R_alloc | apply Kd.R_drewN | apply Kd.R_drew)); exact HO205.out⟩, ⟨by repeat (first | (with_reducible first | exact HB.out | apply below_alloc | apply pw_below_drewN | apply below_drew1) | exact HB.out)⟩⟩
 case round =>
  clear H'
  try clear p2
  obtain ⟨x3_1, x5_1, rfl, HA, HK1, HO_3, HO_4, HB⟩ := hrel
  cases gk with
  | zero => exact absurd HA.out (by simp [spec_l25Read.l0])
  | succ k1 =>
   have H := HA.out
   clear HA
   simp only [spec_l25Read.l0] at H
   by_cases c6 : x5_1 < (t203.length : Int)
   ·rw [if_pos c6] at H
    have c6b0 : decide (x5_1 < (t203.length : Int)) = true := decide_eq_true c6
    clear c6
    by_cases c7 : 0 ≤ x5_1
    ·rw [if_pos c7] at H
     have c7b0 : decide (0 ≤ x5_1) = true := decide_eq_true c7
     clear c7
     replace H := Option.bind_eq_some_iff.mp H
     obtain ⟨⟨t207, t208⟩, A80, H⟩ := H
     replace H : (if t208 = true then (if x3_1.length < 17592186044416 then (spec_l25Read.l0 k1 (x3_1 ++ [t207]) t203 (wrap64 (x5_1 + 1))) else (none)) else (if x3_1.length < 17592186044416 then (spec_l25Read.l0 k1 (x3_1 ++ [(-1)]) t203 (wrap64 (x5_1 + 1))) else (none))) = some r := H
     have A8 := Aside0.mk A80
     clear A80
     by_cases c9 : t208 = true
     ·subst c9
      have H1 : (if x3_1.length < 17592186044416 then (spec_l25Read.l0 k1 (x3_1 ++ [t207]) t203 (wrap64 (x5_1 + 1))) else (none)) = some r := by rw [if_pos rfl] at H; exact H
      clear H
      have H := H1
      clear H1
      by_cases c10 : x3_1.length < 17592186044416
      ·rw [if_pos c10] at H
       have LMc10 := Aside0.mk c10
       clear c10
       obtain ⟨y209, hy209⟩ : ∃ y_ : List Int, y_ = (x3_1 ++ [t207]) := ⟨_, rfl⟩
       replace H : (spec_l25Read.l0 k1 y209 t203 (wrap64 (x5_1 + 1))) = some r := by first | (rw [hy209]; with_reducible exact H) | (have H2_ := (Option.bind_some _ _).symm.trans H; rw [hy209]; with_reducible exact H2_) | (have H2_ := (Option.bind_some _ _).symm.trans H; with_reducible exact H2_) | with_reducible exact H | (rw [hy209]; exact H) | exact H
       have Ny209 := Aside0.mk hy209
       clear hy209
       have H' := Aside0.mk H
       clear H
       obtain ⟨Ao11, co11, eo11⟩ := Kd.R_slice HO_4.out
       subst eo11
       have p206 : 0 ≤ (x5_1 : Int) := of_decide_eq_true Bb_10
       have q206 : x5_1 < (t203.length : Int) := of_decide_eq_true Bb_10
       obtain ⟨ad206, e206, hx206_0⟩ := Kd.at_string (Kd.R_reads' HO_4.out).2.2 x5_1 p206 q206
       cases e206
       replace p206 := eq_true p206
       replace q206 := eq_true q206
       go_wp2_with (first | ((with_reducible refine gate_callee (f := 78) rfl ?_); refine goesL_ (some 22) rfl rfl Try.func78 (by kernel_rfl) rfl #[.string (rdOf ByteArray.empty t203 x5_1)] rfl Bb_4 ?_; (with_reducible refine (spec_ReadDecimal.calls k1 (rdOf ByteArray.empty t203 x5_1) t207 true _ A8.out).mono ?_); rintro e w12 ⟨rfl, hb⟩; refine ⟨_, rfl, ?_⟩; have n0_ := Aside0.mk (Kd.R_below Bb_18 hb); have n1_ := Aside0.mk (Kd.R_below Bb_29 hb); have n2_ := Aside0.mk (below_step Bb_5 hb); clear HO_3; clear HO_4; clear HB; have HO_3 := n0_; have HO_4 := n1_; have HB := n2_; clear n0_ n1_ n2_; (try clear hb); (try clear hb2); (try clear hk); (try clear hi)) | ((with_reducible refine gate_builtin (b := .append) (xs := #[.tmp 27, .tmp 29]) rfl ?_); at_builtin; refine Kd.R_append (Kd.int .i64) (w0 := w) w.heap.size rfl (.tmp 27) (.tmp 29) 37 3 (.int .i64 0) 8 rfl Try.underlying37 info3 rfl (by decide) (by omega) u3 x3_1 t207 [.int .i64 t207] (fun _ => True) (fun _ => False) rfl rfl ?aP (fun _ hk => hk.elim) ?aF ?aO ?aB ?aS ?aL ?_; (case aP => exact rfl); (case aB => exact Bb_5); (case aF => exact (fun _ _ => trivial)); (case aO => exact Bb_18); (case aS => exact (below_size Bb_5)); (case aL => have := LMc10.out; omega); intro v210 w13 ho hb hg hat; rw [← Ny209.out] at ho; have n0_ := Aside0.mk (Kd.R_over' Bb_29 (Kd.R_typed Bb_18) (by decide) hg); have n1_ := Aside0.mk (hb); have n2_ := Aside0.mk (ho); clear HO_4; clear HB; clear HO_3; have HO_4 := n0_; have HB := n1_; have HO211 := n2_; clear n0_ n1_ n2_; clear ho hb hg hat))
       go_roundg k1
       case measure => have := HK1.out; omega
       case rel => exact ⟨(y209), (wrap64 (x5_1 + 1)), Bb_15, H', ⟨by have := HK1.out; omega⟩, ⟨by (with_reducible repeat (first | apply Kd.R_alloc | apply Kd.R_drewN | apply Kd.R_drew)); exact HO211.out⟩, ⟨by (with_reducible repeat (first | apply Kd.R_alloc | apply Kd.R_drewN | apply Kd.R_drew)); exact HO_4.out⟩, ⟨by repeat (first | (with_reducible first | exact HB.out | apply below_alloc | apply pw_below_drewN | apply below_drew1) | exact HB.out)⟩⟩
      ·rw [if_neg c10] at H
       exact absurd H (by simp)
     ·replace c9 := Bool.eq_false_iff.mpr c9
      subst c9
      have H1 : (if x3_1.length < 17592186044416 then (spec_l25Read.l0 k1 (x3_1 ++ [(-1)]) t203 (wrap64 (x5_1 + 1))) else (none)) = some r := by rw [if_neg (show ¬ (false = true) by decide)] at H; exact H
      clear H
      have H := H1
      clear H1
      by_cases c14 : x3_1.length < 17592186044416
      ·rw [if_pos c14] at H
       have LMc14 := Aside0.mk c14
       clear c14
       obtain ⟨y212, hy212⟩ : ∃ y_ : List Int, y_ = (x3_1 ++ [(-1)]) := ⟨_, rfl⟩
       replace H : (spec_l25Read.l0 k1 y212 t203 (wrap64 (x5_1 + 1))) = some r := by first | (rw [hy212]; with_reducible exact H) | (have H2_ := (Option.bind_some _ _).symm.trans H; rw [hy212]; with_reducible exact H2_) | (have H2_ := (Option.bind_some _ _).symm.trans H; with_reducible exact H2_) | with_reducible exact H | (rw [hy212]; exact H) | exact H
       have Ny212 := Aside0.mk hy212
       clear hy212
       have H' := Aside0.mk H
       clear H
       obtain ⟨Ao15, co15, eo15⟩ := Kd.R_slice HO_4.out
       subst eo15
       have p206 : 0 ≤ (x5_1 : Int) := of_decide_eq_true Bb_10
       have q206 : x5_1 < (t203.length : Int) := of_decide_eq_true Bb_10
       obtain ⟨ad206, e206, hx206_0⟩ := Kd.at_string (Kd.R_reads' HO_4.out).2.2 x5_1 p206 q206
       cases e206
       replace p206 := eq_true p206
       replace q206 := eq_true q206
       go_wp2_with (first | ((with_reducible refine gate_callee (f := 78) rfl ?_); refine goesL_ (some 22) rfl rfl Try.func78 (by kernel_rfl) rfl #[.string (rdOf ByteArray.empty t203 x5_1)] rfl Bb_4 ?_; (with_reducible refine (spec_ReadDecimal.calls k1 (rdOf ByteArray.empty t203 x5_1) t207 false _ A8.out).mono ?_); rintro e w16 ⟨rfl, hb⟩; refine ⟨_, rfl, ?_⟩; have n0_ := Aside0.mk (Kd.R_below Bb_18 hb); have n1_ := Aside0.mk (Kd.R_below Bb_29 hb); have n2_ := Aside0.mk (below_step Bb_5 hb); clear HO_3; clear HO_4; clear HB; have HO_3 := n0_; have HO_4 := n1_; have HB := n2_; clear n0_ n1_ n2_; (try clear hb); (try clear hb2); (try clear hk); (try clear hi)) | ((with_reducible refine gate_builtin (b := .append) (xs := #[.tmp 27, .tmp 29]) rfl ?_); at_builtin; refine Kd.R_append (Kd.int .i64) (w0 := w) w.heap.size rfl (.tmp 27) (.tmp 29) 37 3 (.int .i64 0) 8 rfl Try.underlying37 info3 rfl (by decide) (by omega) u3 x3_1 (-1) [.int .i64 (-1)] (fun _ => True) (fun _ => False) rfl rfl ?aP (fun _ hk => hk.elim) ?aF ?aO ?aB ?aS ?aL ?_; (case aP => exact rfl); (case aB => exact Bb_5); (case aF => exact (fun _ _ => trivial)); (case aO => exact Bb_18); (case aS => exact (below_size Bb_5)); (case aL => have := LMc14.out; omega); intro v213 w17 ho hb hg hat; rw [← Ny212.out] at ho; have n0_ := Aside0.mk (Kd.R_over' Bb_29 (Kd.R_typed Bb_18) (by decide) hg); have n1_ := Aside0.mk (hb); have n2_ := Aside0.mk (ho); clear HO_4; clear HB; clear HO_3; have HO_4 := n0_; have HB := n1_; have HO214 := n2_; clear n0_ n1_ n2_; clear ho hb hg hat))
       go_roundg k1
       case measure => have := HK1.out; omega
       case rel => exact ⟨(y212), (wrap64 (x5_1 + 1)), Bb_15, H', ⟨by have := HK1.out; omega⟩, ⟨by (with_reducible repeat (first | apply Kd.R_alloc | apply Kd.R_drewN | apply Kd.R_drew)); exact HO214.out⟩, ⟨by (with_reducible repeat (first | apply Kd.R_alloc | apply Kd.R_drewN | apply Kd.R_drew)); exact HO_4.out⟩, ⟨by repeat (first | (with_reducible first | exact HB.out | apply below_alloc | apply pw_below_drewN | apply below_drew1) | exact HB.out)⟩⟩
      ·rw [if_neg c14] at H
       exact absurd H (by simp)
    ·rw [if_neg c7] at H
     exact absurd H (by simp)
   ·rw [if_neg c6] at H
    have c6b0 : decide (x5_1 < (t203.length : Int)) = false := decide_eq_false c6
    clear c6
    obtain rfl := Option.some.inj H
    obtain ⟨Ao18, co18, eo18⟩ := Kd.R_slice HO_4.out
    subst eo18
    go_wp2
    go_ret
    exact ⟨_, by first | rfl | (simp [errW_none, errW_some] <;> rfl) | (simp [*, errW_none, errW_some] <;> rfl), by (with_reducible repeat (first | apply Kd.R_alloc | apply Kd.R_drewN | apply Kd.R_drew)); exact HO_3.out, by repeat (first | (with_reducible first | exact HB.out | apply below_alloc | apply pw_below_drewN | apply below_drew1) | exact HB.out)⟩
end Go.Proofs.Ytjmhhgnknjfnlaa.PFnExactReadLayout
namespace Go.Proofs.Ytjmhhgnknjfnlaa.PFnExactReadLayout
open Go.RowKit Go.Proofs.YtjmhhgnknjfnlaaW.PrintWords Go.Proofs.YtjmhhgnknjfnlaaW.PrintLast Go.Proofs.YtjmhhgnknjfnlaaW.PrintMore
attribute [local go_sem] max2_int min2_int max_two min_two max_three min_three max_four min_four
set_option linter.unusedVariables false
set_option linter.unusedSimpArgs false
def spec_l01In.f (a0 : Int) (a1 : Int) (a2 : Int) : Option (Bool) := if a0 ≥ a1 then (some (decide (a0 ≤ a2))) else (some false)
set_option maxHeartbeats 8000000 in
set_option maxRecDepth 100000 in
theorem spec_l01In.calls (a0 : Int) (a1 : Int) (a2 : Int) (r : Bool) (w : World) (h : spec_l01In.f a0 a1 a2 = some r) :
  Calls Try.prog 103 #[.int .i64 a0, .int .i64 a1, .int .i64 a2] w fun e w' => e = .returned (.bool r) ∧ Drawn0 w w' := by
 have H : (if a0 ≥ a1 then (some (decide (a0 ≤ a2))) else (some false)) = some r := h
 clear h
 by_cases c4 : a0 ≥ a1
 ·rw [if_pos c4] at H
  have c4b0 : decide (a1 ≤ a0) = true := decide_eq_true c4
  clear c4
  obtain rfl := Option.some.inj H
  go_enter Try.func103, Try.ntmps103
  go_wp2
  go_ret
  exact ⟨by first | rfl | (simp; done) | (simp [*]; done), by repeat (first | exact Drawn0.refl _ | apply Drawn0.step)⟩
 ·rw [if_neg c4] at H
  have c4b0 : decide (a1 ≤ a0) = false := decide_eq_false c4
  clear c4
  obtain rfl := Option.some.inj H
  go_enter Try.func103, Try.ntmps103
  go_wp2
  go_ret
  exact ⟨by first | rfl | (simp; done) | (simp [*]; done), by repeat (first | exact Drawn0.refl _ | apply Drawn0.step)⟩
end Go.Proofs.Ytjmhhgnknjfnlaa.PFnExactReadLayout
namespace Go.Proofs.Ytjmhhgnknjfnlaa.PFnExactReadLayout
open Go.RowKit Go.Proofs.YtjmhhgnknjfnlaaW.PrintWords Go.Proofs.YtjmhhgnknjfnlaaW.PrintLast Go.Proofs.YtjmhhgnknjfnlaaW.PrintMore
attribute [local go_sem] max2_int min2_int max_two min_two max_three min_three max_four min_four
set_option linter.unusedVariables false
set_option linter.unusedSimpArgs false
mutual
def spec_l05Sum.j0 : Nat → List Int → Bool → Option (Int)
 | 0, _, _ => none
 | k + 1, x0, x12 => if x12 = true then (some 0) else (spec_l05Sum.l0 k x0 0 0)
def spec_l05Sum.l0 : Nat → List Int → Int → Int → Option (Int)
 | 0, _, _, _ => none
 | k + 1, x0, x3, x4 => if x4 < (x0.length : Int) then (if 0 ≤ x4 then ((spec_l01In.f (rd x0 x4) 1 8).bind fun t216 => (if t216 = true then (spec_l05Sum.l0 k x0 (wrap64 (x3 + (rd x0 x4))) (wrap64 (x4 + 1))) else (some 0))) else (none)) else (some x3)
end
def spec_l05Sum.f (k : Nat) (l0 : List Int) : Option (Int) := if (l0.length : Int) < 1 then (spec_l05Sum.j0 k l0 true) else (spec_l05Sum.j0 k l0 (decide ((l0.length : Int) > 4)))
theorem spec_l05Sum.mono_l : ∀ k, (∀ y0 y1, LeO (spec_l05Sum.j0 k y0 y1) (spec_l05Sum.j0 (k + 1) y0 y1)) ∧ (∀ y0 y1 y2, LeO (spec_l05Sum.l0 k y0 y1 y2) (spec_l05Sum.l0 (k + 1) y0 y1 y2))
 | 0 => ⟨fun _ _ r h => by simp [spec_l05Sum.j0] at h, fun _ _ _ r h => by simp [spec_l05Sum.l0] at h⟩
 | k + 1 => by
  obtain ⟨ih0, ih1⟩ := spec_l05Sum.mono_l k
  refine ⟨?_, ?_⟩
  ·intro y0 y1
   unfold spec_l05Sum.j0
   repeat' first
   | (with_reducible exact ih0 _ _)
   | (with_reducible exact ih1 _ _ _)
   | (with_reducible exact LeO.refl _)
   | (with_reducible exact LeO.none _)
   | (with_reducible refine LeO.ite ?_ ?_)
   | (with_reducible refine LeO.bind ?_ (fun _ => ?_))
   | exact ih0 _ _
   | exact ih1 _ _ _
   | exact LeO.none _
   | refine LeO.ite ?_ ?_
   | refine LeO.bind ?_ (fun _ => ?_)
  ·intro y0 y1 y2
   unfold spec_l05Sum.l0
   repeat' first
   | (with_reducible exact ih0 _ _)
   | (with_reducible exact ih1 _ _ _)
   | (with_reducible exact LeO.refl _)
   | (with_reducible exact LeO.none _)
   | (with_reducible refine LeO.ite ?_ ?_)
   | (with_reducible refine LeO.bind ?_ (fun _ => ?_))
   | exact ih0 _ _
   | exact ih1 _ _ _
   | exact LeO.none _
   | refine LeO.ite ?_ ?_
   | refine LeO.bind ?_ (fun _ => ?_)
theorem spec_l05Sum.mono : ∀ a0 k, LeO (spec_l05Sum.f k a0) (spec_l05Sum.f (k + 1) a0) := by
 intro a0 k
 obtain ⟨ih0, ih1⟩ := spec_l05Sum.mono_l k
 unfold spec_l05Sum.f
 repeat' first
   | (with_reducible exact ih0 _ _)
   | (with_reducible exact ih1 _ _ _)
   | (with_reducible exact LeO.refl _)
   | (with_reducible exact LeO.none _)
   | (with_reducible refine LeO.ite ?_ ?_)
   | (with_reducible refine LeO.bind ?_ (fun _ => ?_))
   | exact ih0 _ _
   | exact ih1 _ _ _
   | exact LeO.none _
   | refine LeO.ite ?_ ?_
   | refine LeO.bind ?_ (fun _ => ?_)
set_option maxHeartbeats 8000000 in
set_option maxRecDepth 100000 in
theorem spec_l05Sum.calls (k : Nat) (A0 : Option Addr) (c0 : Nat) (l0 : List Int) (r : Int) (w : World) (hr0 : Kd.C (Kd.int .i64) w A0 l0.length l0) (hc0 : l0.length ≤ c0) (h : spec_l05Sum.f k l0 = some r) :
  Calls Try.prog 182 #[.slice A0 l0.length c0] w fun e w' => e = .returned (.int .i64 r) ∧ Drawn0 w w' := by
 have HR0 := Aside0.mk hr0
 have HC0 := Aside0.mk hc0
 clear hr0 hc0
 have H : (if (l0.length : Int) < 1 then (spec_l05Sum.j0 k l0 true) else (spec_l05Sum.j0 k l0 (decide ((l0.length : Int) > 4)))) = some r := h
 clear h
 have HC2 := Aside0.mk H
 clear H
 go_enter Try.func182, Try.ntmps182
 go_upto_region 1 with (fail)
 go_cut [12] (fun v12 wc => ∃ (kq : Nat) (x12_1 : Bool), v12 = .bool x12_1 ∧ Aside0 (spec_l05Sum.j0 kq l0 x12_1 = some r) ∧ Aside0 (kq ≤ k) ∧ Drawn0 w wc)
 case first =>
  have H := HC2.out
  clear HC2
  by_cases c3 : (l0.length : Int) < 1
  ·rw [if_pos c3] at H
   have c3b0 : decide ((l0.length : Int) < 1) = true := decide_eq_true c3
   have c3b1 : decide (l0.length < 1) = true := decide_eq_true (by omega)
   clear c3
   (first | rw [c3b0] | (simp only [i64_w, i32_w]; rw [c3b0]) | skip)
   have H' := Aside0.mk H
   clear H
   go_wp2
   go_meet
   case rel => exact ⟨_, (true), Bb_15, H', ⟨by first | omega | exact Nat.le_refl _⟩, by repeat (first | exact Drawn0.refl _ | apply Drawn0.step)⟩
  ·rw [if_neg c3] at H
   have c3b0 : decide ((l0.length : Int) < 1) = false := decide_eq_false c3
   have c3b1 : decide (l0.length < 1) = false := decide_eq_false (by omega)
   clear c3
   (first | rw [c3b0] | (simp only [i64_w, i32_w]; rw [c3b0]) | skip)
   have H' := Aside0.mk H
   clear H
   go_wp2
   go_meet
   case rel => exact ⟨_, (decide ((l0.length : Int) > 4)), Bb_15, H', ⟨by first | omega | exact Nat.le_refl _⟩, by repeat (first | exact Drawn0.refl _ | apply Drawn0.step)⟩
 case rest =>
  clear HC2
  try clear c1; try clear p2; try clear c3; try clear c3b0; try clear c3b1
  obtain ⟨kq, x12_1, rfl, HA, HJ1, ⟨mc1, rfl⟩⟩ := hcut
  cases kq with
  | zero => exact absurd HA.out (by simp [spec_l05Sum.j0])
  | succ kj1 =>
   have H := HA.out
   clear HA
   simp only [spec_l05Sum.j0] at H
   by_cases c4 : x12_1 = true
   ·subst c4
    have H1 : (some 0) = some r := by rw [if_pos rfl] at H; exact H
    clear H
    have H := H1
    clear H1
    obtain rfl := Option.some.inj H
    go_wp2
    go_ret
    exact ⟨by first | rfl | (simp; done) | (simp [*]; done), by repeat (first | exact Drawn0.refl _ | apply Drawn0.step)⟩
   ·replace c4 := Bool.eq_false_iff.mpr c4
    subst c4
    have H1 : (spec_l05Sum.l0 kj1 l0 0 0) = some r := by rw [if_neg (show ¬ (false = true) by decide)] at H; exact H
    clear H
    have H := H1
    clear H1
    have H' := Aside0.mk H
    clear H
    go_wp2
    go_loopg [3, 4] kj1 (fun kq v3 v4 w' => ∃ (x3_2 : Int) (x4_2 : Int), v3 = .int .i64 x3_2 ∧ v4 = .int .i64 x4_2 ∧ Aside0 (spec_l05Sum.l0 kq l0 x3_2 x4_2 = some r) ∧ Aside0 (kq ≤ kj1) ∧ Drawn0 w w')
    case atStart => exact ⟨(0), (0), Bb_15, Bb_15, H', ⟨Nat.le_refl _⟩, by repeat (first | exact Drawn0.refl _ | apply Drawn0.step)⟩
    case round =>
     clear H'
     try clear c1; try clear p2; try clear c3; try clear c3b0; try clear c3b1; try clear c4; try clear p2
     obtain ⟨x3_2, x4_2, rfl, rfl, HA, HK2, ⟨m2, rfl⟩⟩ := hrel
     cases gk with
     | zero => exact absurd HA.out (by simp [spec_l05Sum.l0])
     | succ k2 =>
      have H := HA.out
      clear HA
      simp only [spec_l05Sum.l0] at H
      by_cases c5 : x4_2 < (l0.length : Int)
      ·rw [if_pos c5] at H
       have c5b0 : decide (x4_2 < (l0.length : Int)) = true := decide_eq_true c5
       clear c5
       by_cases c6 : 0 ≤ x4_2
       ·rw [if_pos c6] at H
        have c6b0 : decide (0 ≤ x4_2) = true := decide_eq_true c6
        clear c6
        replace H := Option.bind_eq_some_iff.mp H
        obtain ⟨t216, A70, H⟩ := H
        replace H : (if t216 = true then (spec_l05Sum.l0 k2 l0 (wrap64 (x3_2 + (rd l0 x4_2))) (wrap64 (x4_2 + 1))) else (some 0)) = some r := H
        have A7 := Aside0.mk A70
        clear A70
        by_cases c8 : t216 = true
        ·subst c8
         have H1 : (spec_l05Sum.l0 k2 l0 (wrap64 (x3_2 + (rd l0 x4_2))) (wrap64 (x4_2 + 1))) = some r := by rw [if_pos rfl] at H; exact H
         clear H
         have H := H1
         clear H1
         have H' := Aside0.mk H
         clear H
         have p215 : 0 ≤ (x4_2 : Int) := of_decide_eq_true Bb_10
         have q215 : x4_2 < (l0.length : Int) := of_decide_eq_true Bb_10
         obtain ⟨ad215, e215, hx215_0⟩ := Kd.at_int HR0.out x4_2 p215 q215
         cases e215
         replace p215 := eq_true p215
         replace q215 := eq_true q215
         go_wp2_with (first | ((with_reducible refine gate_callee (f := 103) rfl ?_); refine goesL_ (some 23) rfl rfl Try.func103 (by kernel_rfl) rfl #[.int .i64 (rd l0 x4_2), .int .i64 1, .int .i64 8] rfl Bb_4 ?_; (with_reducible refine (spec_l01In.calls (rd l0 x4_2) 1 8 true _ A7.out).mono ?_); rintro e w' ⟨rfl, ⟨nd, rfl⟩⟩; refine ⟨_, rfl, ?_⟩; have p217 : 0 ≤ (x4_2 : Int) := of_decide_eq_true Bb_10; have q217 : x4_2 < (l0.length : Int) := of_decide_eq_true Bb_10; obtain ⟨ad217, e217, hx217_0⟩ := Kd.at_int HR0.out x4_2 p217 q217; obtain rfl : ad215 = ad217 := (by injection e217); replace p217 := eq_true p217; replace q217 := eq_true q217))
         go_roundg k2
         case measure => have := HJ1.out; have := HK2.out; omega
         case rel => exact ⟨(wrap64 (x3_2 + (rd l0 x4_2))), (wrap64 (x4_2 + 1)), Bb_15, Bb_15, H', ⟨by have := HJ1.out; have := HK2.out; omega⟩, by repeat (first | exact Drawn0.refl _ | apply Drawn0.step)⟩
        ·replace c8 := Bool.eq_false_iff.mpr c8
         subst c8
         have H1 : (some 0) = some r := by rw [if_neg (show ¬ (false = true) by decide)] at H; exact H
         clear H
         have H := H1
         clear H1
         obtain rfl := Option.some.inj H
         have p215 : 0 ≤ (x4_2 : Int) := of_decide_eq_true Bb_10
         have q215 : x4_2 < (l0.length : Int) := of_decide_eq_true Bb_10
         obtain ⟨ad215, e215, hx215_0⟩ := Kd.at_int HR0.out x4_2 p215 q215
         cases e215
         replace p215 := eq_true p215
         replace q215 := eq_true q215
         go_wp2_with (first | ((with_reducible refine gate_callee (f := 103) rfl ?_); refine goesL_ (some 23) rfl rfl Try.func103 (by kernel_rfl) rfl #[.int .i64 (rd l0 x4_2), .int .i64 1, .int .i64 8] rfl Bb_4 ?_; (with_reducible refine (spec_l01In.calls (rd l0 x4_2) 1 8 false _ A7.out).mono ?_); rintro e w' ⟨rfl, ⟨nd, rfl⟩⟩; refine ⟨_, rfl, ?_⟩))
         go_ret
         exact ⟨by first | rfl | (simp; done) | (simp [*]; done), by repeat (first | exact Drawn0.refl _ | apply Drawn0.step)⟩
       ·rw [if_neg c6] at H
        exact absurd H (by simp)
      ·rw [if_neg c5] at H
       have c5b0 : decide (x4_2 < (l0.length : Int)) = false := decide_eq_false c5
       clear c5
       obtain rfl := Option.some.inj H
       go_wp2
       go_ret
       exact ⟨by first | rfl | (simp; done) | (simp [*]; done), by repeat (first | exact Drawn0.refl _ | apply Drawn0.step)⟩
end Go.Proofs.Ytjmhhgnknjfnlaa.PFnExactReadLayout
namespace Go.Proofs.Ytjmhhgnknjfnlaa.PFnExactReadLayout
open Go.RowKit Go.Proofs.YtjmhhgnknjfnlaaW.PrintWords Go.Proofs.YtjmhhgnknjfnlaaW.PrintLast Go.Proofs.YtjmhhgnknjfnlaaW.PrintMore
attribute [local go_sem] max2_int min2_int max_two min_two max_three min_three max_four min_four
set_option linter.unusedVariables false
set_option linter.unusedSimpArgs false
def spec_SquaresOf.f (k : Nat) (a0_0 : Int) (a0_1 : Int) (l0_2 : List Int) (l0_3 : List Int) : Option (Int) := (spec_l05Sum.f k l0_2).bind fun t219 => ((spec_l05Sum.f k l0_3).bind fun t220 => (some (wrap64 (t219 * t220))))
theorem spec_SquaresOf.mono : ∀ a0 a1 a2 a3 k, LeO (spec_SquaresOf.f k a0 a1 a2 a3) (spec_SquaresOf.f (k + 1) a0 a1 a2 a3) := by
 intro a0 a1 a2 a3 k
 unfold spec_SquaresOf.f
 repeat' first
   | (with_reducible exact spec_l05Sum.mono _ _)
   | (with_reducible exact LeO.refl _)
   | (with_reducible exact LeO.none _)
   | (with_reducible refine LeO.ite ?_ ?_)
   | (with_reducible refine LeO.bind ?_ (fun _ => ?_))
   | exact spec_l05Sum.mono _ _
   | exact LeO.none _
   | refine LeO.ite ?_ ?_
   | refine LeO.bind ?_ (fun _ => ?_)
set_option maxHeartbeats 8000000 in
set_option maxRecDepth 100000 in
theorem spec_SquaresOf.calls (k : Nat) (a0_0 : Int) (a0_1 : Int) (A0_2 : Option Addr) (c0_2 : Nat) (l0_2 : List Int) (A0_3 : Option Addr) (c0_3 : Nat) (l0_3 : List Int) (r : Int) (w : World) (hr0_2 : Kd.C (Kd.int .i64) w A0_2 l0_2.length l0_2) (hc0_2 : l0_2.length ≤ c0_2) (hr0_3 : Kd.C (Kd.int .i64) w A0_3 l0_3.length l0_3) (hc0_3 : l0_3.length ≤ c0_3) (h : spec_SquaresOf.f k a0_0 a0_1 l0_2 l0_3 = some r) :
  Calls Try.prog 178 #[.agg #[.int .i64 a0_0, .int .i64 a0_1, .slice A0_2 l0_2.length c0_2, .slice A0_3 l0_3.length c0_3]] w fun e w' => e = .returned (.int .i64 r) ∧ Below w.heap.size w w' := by
 have hu46 := Try.underlying46
 have HR0_2 := Aside0.mk hr0_2
 have HC0_2 := Aside0.mk hc0_2
 clear hr0_2 hc0_2
 have HR0_3 := Aside0.mk hr0_3
 have HC0_3 := Aside0.mk hc0_3
 clear hr0_3 hc0_3
 have HB := Aside0.mk (Below.refl w.heap.size w)
 have H : ((spec_l05Sum.f k l0_2).bind fun t219 => ((spec_l05Sum.f k l0_3).bind fun t220 => (some (wrap64 (t219 * t220))))) = some r := h
 clear h
 replace H := Option.bind_eq_some_iff.mp H
 obtain ⟨t219, A20, H⟩ := H
 replace H : ((spec_l05Sum.f k l0_3).bind fun t220 => (some (wrap64 (t219 * t220)))) = some r := H
 have A2 := Aside0.mk A20
 clear A20
 replace H := Option.bind_eq_some_iff.mp H
 obtain ⟨t220, A30, H⟩ := H
 replace H : (some (wrap64 (t219 * t220))) = some r := H
 have A3 := Aside0.mk A30
 clear A30
 obtain rfl := Option.some.inj H
 go_enter Try.func178, Try.ntmps178
 go_wp2_with (first | ((with_reducible refine gate_dst (N := 1) rfl ?_); refine box_event ?hg (N := 1) ?hd (cs := #[.int .i64 a0_0, .int .i64 a0_1, .slice A0_2 l0_2.length c0_2, .slice A0_3 l0_3.length c0_3]) (t := 46) ?hr ?_; (case hd => rfl); (case hg => rfl); (case hr => first | (go_simp; done) | (go_simp; rfl)); intro gb218 hg w4 hbox hb; have n0_ := Aside0.mk (below_step Bb_5 hb); have n1_ := Aside0.mk (hbox); have n2_ := Aside0.mk ((by rw [hg]; exact (below_size Bb_5) : w.heap.size ≤ gb218)); have n3_ := Aside0.mk ((by rw [hg]; exact (below_size Bb_5) : w.heap.size ≤ gb218)); clear HB; have HB := n0_; have BK218 := n1_; have GW218 := n2_; have GE218 := n3_; clear n0_ n1_ n2_ n3_; clear hb hbox hg; have hcz5_0 : w4.cell? ⟨gb218, 0, none⟩ = some (.int .i64 a0_0) := (blk_cell BK218.out 0).trans rfl; have hcz5_1 : w4.cell? ⟨gb218, 1, none⟩ = some (.int .i64 a0_1) := (blk_cell BK218.out 1).trans rfl; have hcz5_2 : w4.cell? ⟨gb218, 2, none⟩ = some (.slice A0_2 l0_2.length c0_2) := (blk_cell BK218.out 2).trans rfl; have hcz5_3 : w4.cell? ⟨gb218, 3, none⟩ = some (.slice A0_3 l0_3.length c0_3) := (blk_cell BK218.out 3).trans rfl; have hfz5_0 := blk_frozen BK218.out 0; have hfz5_1 := blk_frozen BK218.out 1; have hfz5_2 := blk_frozen BK218.out 2; have hfz5_3 := blk_frozen BK218.out 3) | (go_at_call 182; (with_reducible refine (spec_l05Sum.calls k _ _ l0_2 t219 _ ?side1 ?side2 A2.out).mono ?_); (case side1 => repeat (first | exact (Kd.C_below HR0_2.out HB.out) | (with_reducible refine Kd.C_alloc ?_ _) | (with_reducible refine Kd.C_drewN ?_ _) | (with_reducible refine Kd.C_drew ?_))); (case side2 => exact HC0_2.out); rintro e w' ⟨rfl, ⟨nd, rfl⟩⟩; (try first | exact ⟨rfl, _, World.drewN_drewN _ _ _⟩ | exact ⟨rfl, _, Eq.trans (World.drewN_drewN _ _ _) (congrArg (World.drewN _) (Nat.add_assoc _ _ _))⟩)) | (go_at_call 182; (with_reducible refine (spec_l05Sum.calls k _ _ l0_3 t220 _ ?side1 ?side2 A3.out).mono ?_); (case side1 => repeat (first | exact (Kd.C_below HR0_3.out Bb_28) | (with_reducible refine Kd.C_alloc ?_ _) | (with_reducible refine Kd.C_drewN ?_ _) | (with_reducible refine Kd.C_drew ?_))); (case side2 => exact HC0_3.out); rintro e w' ⟨rfl, ⟨nd, rfl⟩⟩; (try first | exact ⟨rfl, _, World.drewN_drewN _ _ _⟩ | exact ⟨rfl, _, Eq.trans (World.drewN_drewN _ _ _) (congrArg (World.drewN _) (Nat.add_assoc _ _ _))⟩)))
 repeat (go_quiet (first | ((with_reducible refine gate_dst (N := 1) rfl ?_); refine box_event ?hg (N := 1) ?hd (cs := #[.int .i64 a0_0, .int .i64 a0_1, .slice A0_2 l0_2.length c0_2, .slice A0_3 l0_3.length c0_3]) (t := 46) ?hr ?_; (case hd => rfl); (case hg => rfl); (case hr => first | (go_simp; done) | (go_simp; rfl)); intro gb218 hg w4 hbox hb; have n0_ := Aside0.mk (below_step Bb_5 hb); have n1_ := Aside0.mk (hbox); have n2_ := Aside0.mk ((by rw [hg]; exact (below_size Bb_5) : w.heap.size ≤ gb218)); have n3_ := Aside0.mk ((by rw [hg]; exact (below_size Bb_5) : w.heap.size ≤ gb218)); clear HB; have HB := n0_; have BK218 := n1_; have GW218 := n2_; have GE218 := n3_; clear n0_ n1_ n2_ n3_; clear hb hbox hg; have hcz5_0 : w4.cell? ⟨gb218, 0, none⟩ = some (.int .i64 a0_0) := (blk_cell BK218.out 0).trans rfl; have hcz5_1 : w4.cell? ⟨gb218, 1, none⟩ = some (.int .i64 a0_1) := (blk_cell BK218.out 1).trans rfl; have hcz5_2 : w4.cell? ⟨gb218, 2, none⟩ = some (.slice A0_2 l0_2.length c0_2) := (blk_cell BK218.out 2).trans rfl; have hcz5_3 : w4.cell? ⟨gb218, 3, none⟩ = some (.slice A0_3 l0_3.length c0_3) := (blk_cell BK218.out 3).trans rfl; have hfz5_0 := blk_frozen BK218.out 0; have hfz5_1 := blk_frozen BK218.out 1; have hfz5_2 := blk_frozen BK218.out 2; have hfz5_3 := blk_frozen BK218.out 3) | (go_at_call 182; (with_reducible refine (spec_l05Sum.calls k _ _ l0_2 t219 _ ?side1 ?side2 A2.out).mono ?_); (case side1 => repeat (first | exact (Kd.C_below HR0_2.out HB.out) | (with_reducible refine Kd.C_alloc ?_ _) | (with_reducible refine Kd.C_drewN ?_ _) | (with_reducible refine Kd.C_drew ?_))); (case side2 => exact HC0_2.out); rintro e w' ⟨rfl, ⟨nd, rfl⟩⟩; (try first | exact ⟨rfl, _, World.drewN_drewN _ _ _⟩ | exact ⟨rfl, _, Eq.trans (World.drewN_drewN _ _ _) (congrArg (World.drewN _) (Nat.add_assoc _ _ _))⟩)) | (go_at_call 182; (with_reducible refine (spec_l05Sum.calls k _ _ l0_3 t220 _ ?side1 ?side2 A3.out).mono ?_); (case side1 => repeat (first | exact (Kd.C_below HR0_3.out Bb_28) | (with_reducible refine Kd.C_alloc ?_ _) | (with_reducible refine Kd.C_drewN ?_ _) | (with_reducible refine Kd.C_drew ?_))); (case side2 => exact HC0_3.out); rintro e w' ⟨rfl, ⟨nd, rfl⟩⟩; (try first | exact ⟨rfl, _, World.drewN_drewN _ _ _⟩ | exact ⟨rfl, _, Eq.trans (World.drewN_drewN _ _ _) (congrArg (World.drewN _) (Nat.add_assoc _ _ _))⟩))); try go_wp2_with (first | ((with_reducible refine gate_dst (N := 1) rfl ?_); refine box_event ?hg (N := 1) ?hd (cs := #[.int .i64 a0_0, .int .i64 a0_1, .slice A0_2 l0_2.length c0_2, .slice A0_3 l0_3.length c0_3]) (t := 46) ?hr ?_; (case hd => rfl); (case hg => rfl); (case hr => first | (go_simp; done) | (go_simp; rfl)); intro gb218 hg w4 hbox hb; have n0_ := Aside0.mk (below_step Bb_5 hb); have n1_ := Aside0.mk (hbox); have n2_ := Aside0.mk ((by rw [hg]; exact (below_size Bb_5) : w.heap.size ≤ gb218)); have n3_ := Aside0.mk ((by rw [hg]; exact (below_size Bb_5) : w.heap.size ≤ gb218)); clear HB; have HB := n0_; have BK218 := n1_; have GW218 := n2_; have GE218 := n3_; clear n0_ n1_ n2_ n3_; clear hb hbox hg; have hcz5_0 : w4.cell? ⟨gb218, 0, none⟩ = some (.int .i64 a0_0) := (blk_cell BK218.out 0).trans rfl; have hcz5_1 : w4.cell? ⟨gb218, 1, none⟩ = some (.int .i64 a0_1) := (blk_cell BK218.out 1).trans rfl; have hcz5_2 : w4.cell? ⟨gb218, 2, none⟩ = some (.slice A0_2 l0_2.length c0_2) := (blk_cell BK218.out 2).trans rfl; have hcz5_3 : w4.cell? ⟨gb218, 3, none⟩ = some (.slice A0_3 l0_3.length c0_3) := (blk_cell BK218.out 3).trans rfl; have hfz5_0 := blk_frozen BK218.out 0; have hfz5_1 := blk_frozen BK218.out 1; have hfz5_2 := blk_frozen BK218.out 2; have hfz5_3 := blk_frozen BK218.out 3) | (go_at_call 182; (with_reducible refine (spec_l05Sum.calls k _ _ l0_2 t219 _ ?side1 ?side2 A2.out).mono ?_); (case side1 => repeat (first | exact (Kd.C_below HR0_2.out HB.out) | (with_reducible refine Kd.C_alloc ?_ _) | (with_reducible refine Kd.C_drewN ?_ _) | (with_reducible refine Kd.C_drew ?_))); (case side2 => exact HC0_2.out); rintro e w' ⟨rfl, ⟨nd, rfl⟩⟩; (try first | exact ⟨rfl, _, World.drewN_drewN _ _ _⟩ | exact ⟨rfl, _, Eq.trans (World.drewN_drewN _ _ _) (congrArg (World.drewN _) (Nat.add_assoc _ _ _))⟩)) | (go_at_call 182; (with_reducible refine (spec_l05Sum.calls k _ _ l0_3 t220 _ ?side1 ?side2 A3.out).mono ?_); (case side1 => repeat (first | exact (Kd.C_below HR0_3.out Bb_28) | (with_reducible refine Kd.C_alloc ?_ _) | (with_reducible refine Kd.C_drewN ?_ _) | (with_reducible refine Kd.C_drew ?_))); (case side2 => exact HC0_3.out); rintro e w' ⟨rfl, ⟨nd, rfl⟩⟩; (try first | exact ⟨rfl, _, World.drewN_drewN _ _ _⟩ | exact ⟨rfl, _, Eq.trans (World.drewN_drewN _ _ _) (congrArg (World.drewN _) (Nat.add_assoc _ _ _))⟩))))
 go_ret
 exact ⟨by first | rfl | (simp [errW_none, errW_some] <;> rfl) | (simp [*, errW_none, errW_some] <;> rfl), by repeat (first | (with_reducible first | exact HB.out | apply below_alloc | apply pw_below_drewN | apply below_drew1 | refine below_set ?_ GE218.out) | exact HB.out)⟩
def spec_LevelSquares.f (a0 : Int) : Option (Int) := if a0 = 1 then (some 16) else (if a0 = 2 then (some 64) else (if a0 = 3 then (some 256) else (some 0)))
set_option maxHeartbeats 8000000 in
set_option maxRecDepth 100000 in
theorem spec_LevelSquares.calls (a0 : Int) (r : Int) (w : World) (h : spec_LevelSquares.f a0 = some r) :
  Calls Try.prog 179 #[.int .i64 a0] w fun e w' => e = .returned (.int .i64 r) ∧ Drawn0 w w' := by
 have H : (if a0 = 1 then (some 16) else (if a0 = 2 then (some 64) else (if a0 = 3 then (some 256) else (some 0)))) = some r := h
 clear h
 by_cases c2 : a0 = 1
 ·rw [if_pos c2] at H
  have c2b0 : (a0 == 1) = true := beq_iff_eq.mpr c2
  have c2b1 : (a0 != 1) = false := bne_eq_false_iff_eq.mpr c2
  clear c2
  obtain rfl := Option.some.inj H
  go_enter Try.func179, Try.ntmps179
  go_wp2
  go_ret
  exact ⟨by first | rfl | (simp; done) | (simp [*]; done), by repeat (first | exact Drawn0.refl _ | apply Drawn0.step)⟩
 ·rw [if_neg c2] at H
  have c2b0 : (a0 == 1) = false := beq_eq_false_iff_ne.mpr c2
  have c2b1 : (a0 != 1) = true := bne_iff_ne.mpr c2
  by_cases c3 : a0 = 2
  ·rw [if_pos c3] at H
   have c3b0 : (a0 == 2) = true := beq_iff_eq.mpr c3
   have c3b1 : (a0 != 2) = false := bne_eq_false_iff_eq.mpr c3
   clear c3
   obtain rfl := Option.some.inj H
   go_enter Try.func179, Try.ntmps179
   go_wp2
   go_ret
   exact ⟨by first | rfl | (simp; done) | (simp [*]; done), by repeat (first | exact Drawn0.refl _ | apply Drawn0.step)⟩
  ·rw [if_neg c3] at H
   have c3b0 : (a0 == 2) = false := beq_eq_false_iff_ne.mpr c3
   have c3b1 : (a0 != 2) = true := bne_iff_ne.mpr c3
   by_cases c4 : a0 = 3
   ·rw [if_pos c4] at H
    have c4b0 : (a0 == 3) = true := beq_iff_eq.mpr c4
    have c4b1 : (a0 != 3) = false := bne_eq_false_iff_eq.mpr c4
    clear c4
    obtain rfl := Option.some.inj H
    go_enter Try.func179, Try.ntmps179
    go_wp2
    go_ret
    exact ⟨by first | rfl | (simp; done) | (simp [*]; done), by repeat (first | exact Drawn0.refl _ | apply Drawn0.step)⟩
   ·rw [if_neg c4] at H
    have c4b0 : (a0 == 3) = false := beq_eq_false_iff_ne.mpr c4
    have c4b1 : (a0 != 3) = true := bne_iff_ne.mpr c4
    obtain rfl := Option.some.inj H
    go_enter Try.func179, Try.ntmps179
    go_wp2
    go_ret
    exact ⟨by first | rfl | (simp; done) | (simp [*]; done), by repeat (first | exact Drawn0.refl _ | apply Drawn0.step)⟩
end Go.Proofs.Ytjmhhgnknjfnlaa.PFnExactReadLayout
namespace Go.Proofs.Ytjmhhgnknjfnlaa.PFnExactReadLayout
open Go.RowKit Go.Proofs.YtjmhhgnknjfnlaaW.PrintWords Go.Proofs.YtjmhhgnknjfnlaaW.PrintLast Go.Proofs.YtjmhhgnknjfnlaaW.PrintMore
attribute [local go_sem] max2_int min2_int max_two min_two max_three min_three max_four min_four
set_option linter.unusedVariables false
set_option linter.unusedSimpArgs false
def spec_SeqOk.f (k : Nat) (a0_0 : Int) (a0_1 : Int) (l0_2 : List Int) (l0_3 : List Int) : Option (Bool) := (spec_SquaresOf.f k a0_0 a0_1 l0_2 l0_3).bind fun t222 => ((spec_LevelSquares.f a0_0).bind fun t223 => ((spec_l01In.f t222 1 t223).bind fun t224 => (if t224 = true then ((spec_l01In.f a0_1 3 8).bind fun t225 => (some t225)) else (some false))))
theorem spec_SeqOk.mono : ∀ a0 a1 a2 a3 k, LeO (spec_SeqOk.f k a0 a1 a2 a3) (spec_SeqOk.f (k + 1) a0 a1 a2 a3) := by
 intro a0 a1 a2 a3 k
 unfold spec_SeqOk.f
 repeat' first
   | (with_reducible exact spec_SquaresOf.mono _ _ _ _ _)
   | (with_reducible exact LeO.refl _)
   | (with_reducible exact LeO.none _)
   | (with_reducible refine LeO.ite ?_ ?_)
   | (with_reducible refine LeO.bind ?_ (fun _ => ?_))
   | exact spec_SquaresOf.mono _ _ _ _ _
   | exact LeO.none _
   | refine LeO.ite ?_ ?_
   | refine LeO.bind ?_ (fun _ => ?_)
def spec_SeqOk.T1 : Bool × List (List Nat × List Nat) := (true, [([], []), ([0], [0]), ([], []), ([2], [2]), ([3, 1], [3]), ([1, 4, 4], [1, 4]), ([5, 5], [5]), ([6], [6]), ([7, 6], [6, 7]), ([8, 6, 6], [6, 8]), ([6, 9], [6, 9]), ([10, 9, 0, 1, 2, 3, 4, 5, 6, 7, 8, 9, 10], [10])])
def spec_SeqOk.B1 : List Nat := [0, 1, 0, 4, 15, 31, 63, 127, 255, 511, 1023, 2047]
theorem spec_SeqOk.tab1 : rtab .any (opsOf Try.f154 1) = spec_SeqOk.T1 := by kernel_rfl
theorem spec_SeqOk.bits1 : waitsOk spec_SeqOk.T1.2 spec_SeqOk.B1 = true := by kernel_rfl
set_option maxHeartbeats 8000000 in
set_option maxRecDepth 100000 in
theorem spec_SeqOk.calls (k : Nat) (a0_0 : Int) (a0_1 : Int) (A0_2 : Option Addr) (c0_2 : Nat) (l0_2 : List Int) (A0_3 : Option Addr) (c0_3 : Nat) (l0_3 : List Int) (r : Bool) (w : World) (hr0_2 : Kd.C (Kd.int .i64) w A0_2 l0_2.length l0_2) (hc0_2 : l0_2.length ≤ c0_2) (hr0_3 : Kd.C (Kd.int .i64) w A0_3 l0_3.length l0_3) (hc0_3 : l0_3.length ≤ c0_3) (h : spec_SeqOk.f k a0_0 a0_1 l0_2 l0_3 = some r) :
  Calls Try.prog 154 #[.agg #[.int .i64 a0_0, .int .i64 a0_1, .slice A0_2 l0_2.length c0_2, .slice A0_3 l0_3.length c0_3]] w fun e w' => e = .returned (.bool r) ∧ Below w.heap.size w w' := by
 have hu46 := Try.underlying46
 have HR0_2 := Aside0.mk hr0_2
 have HC0_2 := Aside0.mk hc0_2
 clear hr0_2 hc0_2
 have HR0_3 := Aside0.mk hr0_3
 have HC0_3 := Aside0.mk hc0_3
 clear hr0_3 hc0_3
 have HB := Aside0.mk (Below.refl w.heap.size w)
 have H : ((spec_SquaresOf.f k a0_0 a0_1 l0_2 l0_3).bind fun t222 => ((spec_LevelSquares.f a0_0).bind fun t223 => ((spec_l01In.f t222 1 t223).bind fun t224 => (if t224 = true then ((spec_l01In.f a0_1 3 8).bind fun t225 => (some t225)) else (some false))))) = some r := h
 clear h
 replace H := Option.bind_eq_some_iff.mp H
 obtain ⟨t222, A20, H⟩ := H
 replace H : ((spec_LevelSquares.f a0_0).bind fun t223 => ((spec_l01In.f t222 1 t223).bind fun t224 => (if t224 = true then ((spec_l01In.f a0_1 3 8).bind fun t225 => (some t225)) else (some false)))) = some r := H
 have A2 := Aside0.mk A20
 clear A20
 replace H := Option.bind_eq_some_iff.mp H
 obtain ⟨t223, A30, H⟩ := H
 replace H : ((spec_l01In.f t222 1 t223).bind fun t224 => (if t224 = true then ((spec_l01In.f a0_1 3 8).bind fun t225 => (some t225)) else (some false))) = some r := H
 have A3 := Aside0.mk A30
 clear A30
 replace H := Option.bind_eq_some_iff.mp H
 obtain ⟨t224, A40, H⟩ := H
 replace H : (if t224 = true then ((spec_l01In.f a0_1 3 8).bind fun t225 => (some t225)) else (some false)) = some r := H
 have A4 := Aside0.mk A40
 clear A40
 by_cases c5 : t224 = true
 ·subst c5
  have H1 : ((spec_l01In.f a0_1 3 8).bind fun t225 => (some t225)) = some r := by rw [if_pos rfl] at H; exact H
  clear H
  have H := H1
  clear H1
  replace H := Option.bind_eq_some_iff.mp H
  obtain ⟨t225, A60, H⟩ := H
  replace H : (some t225) = some r := H
  have A6 := Aside0.mk A60
  clear A60
  obtain rfl := Option.some.inj H
  go_enter Try.func154, Try.ntmps154
  try go_wp2_with (first | ((with_reducible refine gate_dst (N := 1) rfl ?_); refine box_event ?hg (N := 1) ?hd (cs := #[.int .i64 a0_0, .int .i64 a0_1, .slice A0_2 l0_2.length c0_2, .slice A0_3 l0_3.length c0_3]) (t := 46) ?hr ?_; (case hd => rfl); (case hg => rfl); (case hr => first | (go_simp; done) | (go_simp; rfl)); intro gb221 hg w7 hbox hb; have n0_ := Aside0.mk (below_step Bb_5 hb); have n1_ := Aside0.mk (hbox); have n2_ := Aside0.mk ((by rw [hg]; exact (below_size Bb_5) : w.heap.size ≤ gb221)); have n3_ := Aside0.mk ((by rw [hg]; exact (below_size Bb_5) : w.heap.size ≤ gb221)); clear HB; have HB := n0_; have BK221 := n1_; have GW221 := n2_; have GE221 := n3_; clear n0_ n1_ n2_ n3_; clear hb hbox hg))
  have n0_ := Aside0.mk (blk_drew BK221.out)
  have n1_ := Aside0.mk (below_drew1 HB.out)
  clear BK221
  clear HB
  have BK221 := n0_
  have HB := n1_
  clear n0_ n1_
  refine start_ (n := 12) (S := fun w' => w'.cell? ⟨gb221, 0, none⟩ = some (.int .i64 a0_0) ∧ w'.cell? ⟨gb221, 1, none⟩ = some (.int .i64 a0_1) ∧ w'.cell? ⟨gb221, 2, none⟩ = some (.slice A0_2 l0_2.length c0_2) ∧ w'.cell? ⟨gb221, 3, none⟩ = some (.slice A0_3 l0_3.length c0_3)) (ds := []) #[false, false, false, false, false, false, false, false, false, false, false, false] (by kernel_rfl) rfl rfl ⟨(blk_cell BK221.out 0).trans rfl, (blk_cell BK221.out 1).trans rfl, (blk_cell BK221.out 2).trans rfl, (blk_cell BK221.out 3).trans rfl⟩ (fun hHeld => ?_); refine with_tabW spec_SeqOk.tab1 spec_SeqOk.bits1 (fun HT_ HW_ => ?_)
  generalize w7.drew = w8 at BK221 HB hHeld ⊢
  refine pure_ (i := 2) (N := some 5) (v := ?_) (a' := ?_) #[false, false, true, false, false, false, false, false, false, false, false, false] rfl rfl (any_of HT_.out (by kernel_rfl)) (fun _ _ _ h => h) (Or.inl ⟨by rfl, ?_⟩) ?_ ?_
  rotate_left
  ·intro w'
   go_simp
   with_reducible rfl
  rotate_left
  ·simp only [Act.put, List.setIfInBounds_toArray, List.set_cons_zero, List.set_cons_succ, i64_w, i32_w]
   rfl
  refine take_ (i := 0) (N := some 3) (v := ?_) (a' := ?_) #[true, false, true, false, false, false, false, false, false, false, false, false] rfl rfl (take_ofW HT_.out HW_.out (by kernel_rfl)) (fun _ _ _ h => h) (Or.inl ⟨by rfl, ?_⟩) hHeld ?_ ?_
  rotate_left
  ·rintro w' ⟨s0, s1, s2, s3⟩
   go_simp
   with_reducible rfl
  rotate_left
  ·simp only [Act.put, List.setIfInBounds_toArray, List.set_cons_zero, List.set_cons_succ, i64_w, i32_w]
   rfl
  refine take_ (i := 3) (N := some 6) (v := ?_) (a' := ?_) #[true, false, true, true, false, false, false, false, false, false, false, false] rfl rfl (take_ofW HT_.out HW_.out (by kernel_rfl)) (fun _ _ _ h => h) (Or.inl ⟨by rfl, ?_⟩) hHeld ?_ ?_
  rotate_left
  ·rintro w' ⟨s0, s1, s2, s3⟩
   go_simp
   with_reducible rfl
  rotate_left
  ·simp only [Act.put, List.setIfInBounds_toArray, List.set_cons_zero, List.set_cons_succ, i64_w, i32_w]
   rfl
  refine one_ (i := 1) (N := some 4) #[true, true, true, true, false, false, false, false, false, false, false, false] rfl rfl (one_of HT_.out (by kernel_rfl)) (by decide) (fun K hK => ?_)
  refine goes_ Try.func178 (by kernel_rfl) rfl #[.agg #[.int .i64 a0_0, .int .i64 a0_1, .slice A0_2 l0_2.length c0_2, .slice A0_3 l0_3.length c0_3]] (by rfl) rfl rfl Bb_4 ?_
  with_reducible refine (spec_SquaresOf.calls k a0_0 a0_1 _ _ l0_2 _ _ l0_3 t222 _ ?side1 ?side2 ?side3 ?side4 A2.out).mono ?_
  (case side1 => repeat (first | exact (Kd.C_below HR0_2.out HB.out) | (with_reducible refine Kd.C_alloc ?_ _) | (with_reducible refine Kd.C_drewN ?_ _) | (with_reducible refine Kd.C_drew ?_)))
  (case side2 => exact HC0_2.out)
  (case side3 => repeat (first | exact (Kd.C_below HR0_3.out HB.out) | (with_reducible refine Kd.C_alloc ?_ _) | (with_reducible refine Kd.C_drewN ?_ _) | (with_reducible refine Kd.C_drew ?_)))
  (case side4 => exact HC0_3.out)
  rintro e w9 ⟨rfl, hb⟩
  refine ⟨_, rfl, ?_⟩
  have n0_ := Aside0.mk (blk_below (g := gb221) (o := .cells #[.int .i64 a0_0, .int .i64 a0_1, .slice A0_2 l0_2.length c0_2, .slice A0_3 l0_3.length c0_3] 46 (0, 0)) Bb_32 hb)
  have n1_ := Aside0.mk (below_step Bb_31 hb)
  clear BK221
  clear HB
  have BK221 := n0_
  have HB := n1_
  clear n0_ n1_
  (try clear hb)
  (try clear hb2)
  (try clear hk)
  (try clear hi)
  refine hK.out _ _ ⟨(blk_cell BK221.out 0).trans rfl, (blk_cell BK221.out 1).trans rfl, (blk_cell BK221.out 2).trans rfl, (blk_cell BK221.out 3).trans rfl⟩ (fun hHeld => ?_)
  clear hK K
  refine norm_ (a' := ?_) ?_ ?_
  rotate_left
  ·show Act.put _ (some 4) _ = _
   simp only [Act.put, List.setIfInBounds_toArray, List.set_cons_zero, List.set_cons_succ, i64_w, i32_w]
   rfl
  refine one_ (i := 4) (N := some 7) #[true, true, true, true, true, false, false, false, false, false, false, false] rfl rfl (one_of HT_.out (by kernel_rfl)) (by decide) (fun K hK => ?_)
  refine goes_ Try.func179 (by kernel_rfl) rfl #[.int .i64 a0_0] (by rfl) rfl rfl Bb_4 ?_
  with_reducible refine (spec_LevelSquares.calls a0_0 t223 _ A3.out).mono ?_
  rintro e w' ⟨rfl, ⟨nd, rfl⟩⟩
  refine ⟨_, rfl, ?_⟩
  refine hK.out _ _ ⟨(blk_cell BK221.out 0).trans rfl, (blk_cell BK221.out 1).trans rfl, (blk_cell BK221.out 2).trans rfl, (blk_cell BK221.out 3).trans rfl⟩ (fun hHeld => ?_)
  clear hK K
  refine norm_ (a' := ?_) ?_ ?_
  rotate_left
  ·show Act.put _ (some 7) _ = _
   simp only [Act.put, List.setIfInBounds_toArray, List.set_cons_zero, List.set_cons_succ, i64_w, i32_w]
   rfl
  refine one_ (i := 5) (N := some 8) #[true, true, true, true, true, true, false, false, false, false, false, false] rfl rfl (one_of HT_.out (by kernel_rfl)) (by decide) (fun K hK => ?_)
  refine goes_ Try.func103 (by kernel_rfl) rfl #[.int .i64 t222, .int .i64 1, .int .i64 t223] (by rfl) rfl rfl Bb_4 ?_
  with_reducible refine (spec_l01In.calls t222 1 t223 true _ A4.out).mono ?_
  rintro e w' ⟨rfl, ⟨nd, rfl⟩⟩
  refine ⟨_, rfl, ?_⟩
  refine hK.out _ _ ⟨(blk_cell BK221.out 0).trans rfl, (blk_cell BK221.out 1).trans rfl, (blk_cell BK221.out 2).trans rfl, (blk_cell BK221.out 3).trans rfl⟩ (fun hHeld => ?_)
  clear hK K
  refine norm_ (a' := ?_) ?_ ?_
  rotate_left
  ·show Act.put _ (some 8) _ = _
   simp only [Act.put, List.setIfInBounds_toArray, List.set_cons_zero, List.set_cons_succ, i64_w, i32_w]
   rfl
  refine pure_ (i := 6) (N := some 9) (v := ?_) (a' := ?_) #[true, true, true, true, true, true, true, false, false, false, false, false] rfl rfl (any_of HT_.out (by kernel_rfl)) (fun _ _ _ h => h) (Or.inl ⟨by rfl, ?_⟩) ?_ ?_
  rotate_left
  ·intro w'
   go_simp
   with_reducible rfl
  rotate_left
  ·simp only [Act.put, List.setIfInBounds_toArray, List.set_cons_zero, List.set_cons_succ, i64_w, i32_w]
   rfl
  refine pure_ (i := 7) (N := some 10) (v := ?_) (a' := ?_) #[true, true, true, true, true, true, true, true, false, false, false, false] rfl rfl (any_of HT_.out (by kernel_rfl)) (fun _ _ _ h => h) (Or.inl ⟨by rfl, ?_⟩) ?_ ?_
  rotate_left
  ·intro w'
   go_simp
   with_reducible rfl
  rotate_left
  ·simp only [Act.put, List.setIfInBounds_toArray, List.set_cons_zero, List.set_cons_succ, i64_w, i32_w]
   rfl
  refine take_ (i := 8) (N := some 11) (v := ?_) (a' := ?_) #[true, true, true, true, true, true, true, true, true, false, false, false] rfl rfl (take_ofW HT_.out HW_.out (by kernel_rfl)) (fun _ _ _ h => h) (Or.inl ⟨by rfl, ?_⟩) hHeld ?_ ?_
  rotate_left
  ·rintro w' ⟨s0, s1, s2, s3⟩
   go_simp
   with_reducible rfl
  rotate_left
  ·simp only [Act.put, List.setIfInBounds_toArray, List.set_cons_zero, List.set_cons_succ, i64_w, i32_w]
   rfl
  refine one_ (i := 9) (N := some 12) #[true, true, true, true, true, true, true, true, true, true, false, false] rfl rfl (one_of HT_.out (by kernel_rfl)) (by decide) (fun K hK => ?_)
  refine goes_ Try.func103 (by kernel_rfl) rfl #[.int .i64 a0_1, .int .i64 3, .int .i64 8] (by rfl) rfl rfl Bb_4 ?_
  with_reducible refine (spec_l01In.calls a0_1 3 8 t225 _ A6.out).mono ?_
  rintro e w' ⟨rfl, ⟨nd, rfl⟩⟩
  refine ⟨_, rfl, ?_⟩
  refine hK.out _ _ ⟨(blk_cell BK221.out 0).trans rfl, (blk_cell BK221.out 1).trans rfl, (blk_cell BK221.out 2).trans rfl, (blk_cell BK221.out 3).trans rfl⟩ (fun hHeld => ?_)
  clear hK K
  refine norm_ (a' := ?_) ?_ ?_
  rotate_left
  ·show Act.put _ (some 12) _ = _
   simp only [Act.put, List.setIfInBounds_toArray, List.set_cons_zero, List.set_cons_succ, i64_w, i32_w]
   rfl
  refine pure_ (i := 10) (N := some 13) (v := ?_) (a' := ?_) #[true, true, true, true, true, true, true, true, true, true, true, false] rfl rfl (any_of HT_.out (by kernel_rfl)) (fun _ _ _ h => h) (Or.inl ⟨by rfl, ?_⟩) ?_ ?_
  rotate_left
  ·intro w'
   go_simp
   with_reducible rfl
  rotate_left
  ·simp only [Act.put, List.setIfInBounds_toArray, List.set_cons_zero, List.set_cons_succ, i64_w, i32_w]
   rfl
  refine pure_ (i := 11) (N := some 2) (v := ?_) (a' := ?_) #[true, true, true, true, true, true, true, true, true, true, true, true] rfl rfl (any_of HT_.out (by kernel_rfl)) (fun _ _ _ h => h) (Or.inl ⟨by rfl, ?_⟩) ?_ ?_
  rotate_left
  ·intro w'
   go_simp
   with_reducible rfl
  rotate_left
  ·simp only [Act.put, List.setIfInBounds_toArray, List.set_cons_zero, List.set_cons_succ, i64_w, i32_w]
   rfl
  refine done_ (done_of HT_.out (by kernel_rfl)) ?_
  try go_wp2
  go_ret
  exact ⟨by first | rfl | (simp [errW_none, errW_some] <;> rfl) | (simp [*, errW_none, errW_some] <;> rfl), by repeat (first | (with_reducible first | exact HB.out | apply below_alloc | apply pw_below_drewN | apply below_drew1 | refine below_set ?_ GE221.out) | exact HB.out)⟩
 ·replace c5 := Bool.eq_false_iff.mpr c5
  subst c5
  have H1 : (some false) = some r := by rw [if_neg (show ¬ (false = true) by decide)] at H; exact H
  clear H
  have H := H1
  clear H1
  obtain rfl := Option.some.inj H
  go_enter Try.func154, Try.ntmps154
  try go_wp2_with (first | ((with_reducible refine gate_dst (N := 1) rfl ?_); refine box_event ?hg (N := 1) ?hd (cs := #[.int .i64 a0_0, .int .i64 a0_1, .slice A0_2 l0_2.length c0_2, .slice A0_3 l0_3.length c0_3]) (t := 46) ?hr ?_; (case hd => rfl); (case hg => rfl); (case hr => first | (go_simp; done) | (go_simp; rfl)); intro gb221 hg w10 hbox hb; have n0_ := Aside0.mk (below_step Bb_5 hb); have n1_ := Aside0.mk (hbox); have n2_ := Aside0.mk ((by rw [hg]; exact (below_size Bb_5) : w.heap.size ≤ gb221)); have n3_ := Aside0.mk ((by rw [hg]; exact (below_size Bb_5) : w.heap.size ≤ gb221)); clear HB; have HB := n0_; have BK221 := n1_; have GW221 := n2_; have GE221 := n3_; clear n0_ n1_ n2_ n3_; clear hb hbox hg))
  have n0_ := Aside0.mk (blk_drew BK221.out)
  have n1_ := Aside0.mk (below_drew1 HB.out)
  clear BK221
  clear HB
  have BK221 := n0_
  have HB := n1_
  clear n0_ n1_
  refine start_ (n := 12) (S := fun w' => w'.cell? ⟨gb221, 0, none⟩ = some (.int .i64 a0_0) ∧ w'.cell? ⟨gb221, 1, none⟩ = some (.int .i64 a0_1) ∧ w'.cell? ⟨gb221, 2, none⟩ = some (.slice A0_2 l0_2.length c0_2) ∧ w'.cell? ⟨gb221, 3, none⟩ = some (.slice A0_3 l0_3.length c0_3)) (ds := []) #[false, false, false, false, false, false, false, false, false, false, false, false] (by kernel_rfl) rfl rfl ⟨(blk_cell BK221.out 0).trans rfl, (blk_cell BK221.out 1).trans rfl, (blk_cell BK221.out 2).trans rfl, (blk_cell BK221.out 3).trans rfl⟩ (fun hHeld => ?_); refine with_tabW spec_SeqOk.tab1 spec_SeqOk.bits1 (fun HT_ HW_ => ?_)
  generalize w10.drew = w11 at BK221 HB hHeld ⊢
  refine pure_ (i := 2) (N := some 5) (v := ?_) (a' := ?_) #[false, false, true, false, false, false, false, false, false, false, false, false] rfl rfl (any_of HT_.out (by kernel_rfl)) (fun _ _ _ h => h) (Or.inl ⟨by rfl, ?_⟩) ?_ ?_
  rotate_left
  ·intro w'
   go_simp
   with_reducible rfl
  rotate_left
  ·simp only [Act.put, List.setIfInBounds_toArray, List.set_cons_zero, List.set_cons_succ, i64_w, i32_w]
   rfl
  refine take_ (i := 0) (N := some 3) (v := ?_) (a' := ?_) #[true, false, true, false, false, false, false, false, false, false, false, false] rfl rfl (take_ofW HT_.out HW_.out (by kernel_rfl)) (fun _ _ _ h => h) (Or.inl ⟨by rfl, ?_⟩) hHeld ?_ ?_
  rotate_left
  ·rintro w' ⟨s0, s1, s2, s3⟩
   go_simp
   with_reducible rfl
  rotate_left
  ·simp only [Act.put, List.setIfInBounds_toArray, List.set_cons_zero, List.set_cons_succ, i64_w, i32_w]
   rfl
  refine take_ (i := 3) (N := some 6) (v := ?_) (a' := ?_) #[true, false, true, true, false, false, false, false, false, false, false, false] rfl rfl (take_ofW HT_.out HW_.out (by kernel_rfl)) (fun _ _ _ h => h) (Or.inl ⟨by rfl, ?_⟩) hHeld ?_ ?_
  rotate_left
  ·rintro w' ⟨s0, s1, s2, s3⟩
   go_simp
   with_reducible rfl
  rotate_left
  ·simp only [Act.put, List.setIfInBounds_toArray, List.set_cons_zero, List.set_cons_succ, i64_w, i32_w]
   rfl
  refine one_ (i := 1) (N := some 4) #[true, true, true, true, false, false, false, false, false, false, false, false] rfl rfl (one_of HT_.out (by kernel_rfl)) (by decide) (fun K hK => ?_)
  refine goes_ Try.func178 (by kernel_rfl) rfl #[.agg #[.int .i64 a0_0, .int .i64 a0_1, .slice A0_2 l0_2.length c0_2, .slice A0_3 l0_3.length c0_3]] (by rfl) rfl rfl Bb_4 ?_
  with_reducible refine (spec_SquaresOf.calls k a0_0 a0_1 _ _ l0_2 _ _ l0_3 t222 _ ?side1 ?side2 ?side3 ?side4 A2.out).mono ?_
  (case side1 => repeat (first | exact (Kd.C_below HR0_2.out HB.out) | (with_reducible refine Kd.C_alloc ?_ _) | (with_reducible refine Kd.C_drewN ?_ _) | (with_reducible refine Kd.C_drew ?_)))
  (case side2 => exact HC0_2.out)
  (case side3 => repeat (first | exact (Kd.C_below HR0_3.out HB.out) | (with_reducible refine Kd.C_alloc ?_ _) | (with_reducible refine Kd.C_drewN ?_ _) | (with_reducible refine Kd.C_drew ?_)))
  (case side4 => exact HC0_3.out)
  rintro e w12 ⟨rfl, hb⟩
  refine ⟨_, rfl, ?_⟩
  have n0_ := Aside0.mk (blk_below (g := gb221) (o := .cells #[.int .i64 a0_0, .int .i64 a0_1, .slice A0_2 l0_2.length c0_2, .slice A0_3 l0_3.length c0_3] 46 (0, 0)) Bb_32 hb)
  have n1_ := Aside0.mk (below_step Bb_31 hb)
  clear BK221
  clear HB
  have BK221 := n0_
  have HB := n1_
  clear n0_ n1_
  (try clear hb)
  (try clear hb2)
  (try clear hk)
  (try clear hi)
  refine hK.out _ _ ⟨(blk_cell BK221.out 0).trans rfl, (blk_cell BK221.out 1).trans rfl, (blk_cell BK221.out 2).trans rfl, (blk_cell BK221.out 3).trans rfl⟩ (fun hHeld => ?_)
  clear hK K
  refine norm_ (a' := ?_) ?_ ?_
  rotate_left
  ·show Act.put _ (some 4) _ = _
   simp only [Act.put, List.setIfInBounds_toArray, List.set_cons_zero, List.set_cons_succ, i64_w, i32_w]
   rfl
  refine one_ (i := 4) (N := some 7) #[true, true, true, true, true, false, false, false, false, false, false, false] rfl rfl (one_of HT_.out (by kernel_rfl)) (by decide) (fun K hK => ?_)
  refine goes_ Try.func179 (by kernel_rfl) rfl #[.int .i64 a0_0] (by rfl) rfl rfl Bb_4 ?_
  with_reducible refine (spec_LevelSquares.calls a0_0 t223 _ A3.out).mono ?_
  rintro e w' ⟨rfl, ⟨nd, rfl⟩⟩
  refine ⟨_, rfl, ?_⟩
  refine hK.out _ _ ⟨(blk_cell BK221.out 0).trans rfl, (blk_cell BK221.out 1).trans rfl, (blk_cell BK221.out 2).trans rfl, (blk_cell BK221.out 3).trans rfl⟩ (fun hHeld => ?_)
  clear hK K
  refine norm_ (a' := ?_) ?_ ?_
  rotate_left
  ·show Act.put _ (some 7) _ = _
   simp only [Act.put, List.setIfInBounds_toArray, List.set_cons_zero, List.set_cons_succ, i64_w, i32_w]
   rfl
  refine one_ (i := 5) (N := some 8) #[true, true, true, true, true, true, false, false, false, false, false, false] rfl rfl (one_of HT_.out (by kernel_rfl)) (by decide) (fun K hK => ?_)
  refine goes_ Try.func103 (by kernel_rfl) rfl #[.int .i64 t222, .int .i64 1, .int .i64 t223] (by rfl) rfl rfl Bb_4 ?_
  with_reducible refine (spec_l01In.calls t222 1 t223 false _ A4.out).mono ?_
  rintro e w' ⟨rfl, ⟨nd, rfl⟩⟩
  refine ⟨_, rfl, ?_⟩
  refine hK.out _ _ ⟨(blk_cell BK221.out 0).trans rfl, (blk_cell BK221.out 1).trans rfl, (blk_cell BK221.out 2).trans rfl, (blk_cell BK221.out 3).trans rfl⟩ (fun hHeld => ?_)
  clear hK K
  refine norm_ (a' := ?_) ?_ ?_
  rotate_left
  ·show Act.put _ (some 8) _ = _
   simp only [Act.put, List.setIfInBounds_toArray, List.set_cons_zero, List.set_cons_succ, i64_w, i32_w]
   rfl
  refine pure_ (i := 6) (N := some 9) (v := ?_) (a' := ?_) #[true, true, true, true, true, true, true, false, false, false, false, false] rfl rfl (any_of HT_.out (by kernel_rfl)) (fun _ _ _ h => h) (Or.inl ⟨by rfl, ?_⟩) ?_ ?_
  rotate_left
  ·intro w'
   go_simp
   with_reducible rfl
  rotate_left
  ·simp only [Act.put, List.setIfInBounds_toArray, List.set_cons_zero, List.set_cons_succ, i64_w, i32_w]
   rfl
  refine pure_ (i := 7) (N := some 10) (v := undef) (a' := ?_) #[true, true, true, true, true, true, true, true, false, false, false, false] rfl rfl (any_of HT_.out (by kernel_rfl)) (fun _ _ _ h => h) (Or.inr ⟨by rfl, rfl⟩) ?_ ?_
  rotate_left
  ·simp only [Act.put, List.setIfInBounds_toArray, List.set_cons_zero, List.set_cons_succ, i64_w, i32_w]
   rfl
  refine pure_ (i := 8) (N := some 11) (v := undef) (a' := ?_) #[true, true, true, true, true, true, true, true, true, false, false, false] rfl rfl (any_of HT_.out (by kernel_rfl)) (fun _ _ _ h => h) (Or.inr ⟨by rfl, rfl⟩) ?_ ?_
  rotate_left
  ·simp only [Act.put, List.setIfInBounds_toArray, List.set_cons_zero, List.set_cons_succ, i64_w, i32_w]
   rfl
  refine pure_ (i := 9) (N := some 12) (v := undef) (a' := ?_) #[true, true, true, true, true, true, true, true, true, true, false, false] rfl rfl (any_of HT_.out (by kernel_rfl)) (fun _ _ _ h => h) (Or.inr ⟨by rfl, rfl⟩) ?_ ?_
  rotate_left
  ·simp only [Act.put, List.setIfInBounds_toArray, List.set_cons_zero, List.set_cons_succ, i64_w, i32_w]
   rfl
  refine pure_ (i := 10) (N := some 13) (v := ?_) (a' := ?_) #[true, true, true, true, true, true, true, true, true, true, true, false] rfl rfl (any_of HT_.out (by kernel_rfl)) (fun _ _ _ h => h) (Or.inl ⟨by rfl, ?_⟩) ?_ ?_
  rotate_left
  ·intro w'
   go_simp
   with_reducible rfl
  rotate_left
  ·simp only [Act.put, List.setIfInBounds_toArray, List.set_cons_zero, List.set_cons_succ, i64_w, i32_w]
   rfl
  refine pure_ (i := 11) (N := some 2) (v := ?_) (a' := ?_) #[true, true, true, true, true, true, true, true, true, true, true, true] rfl rfl (any_of HT_.out (by kernel_rfl)) (fun _ _ _ h => h) (Or.inl ⟨by rfl, ?_⟩) ?_ ?_
  rotate_left
  ·intro w'
   go_simp
   with_reducible rfl
  rotate_left
  ·simp only [Act.put, List.setIfInBounds_toArray, List.set_cons_zero, List.set_cons_succ, i64_w, i32_w]
   rfl
  refine done_ (done_of HT_.out (by kernel_rfl)) ?_
  try go_wp2
  go_ret
  exact ⟨by first | rfl | (simp [errW_none, errW_some] <;> rfl) | (simp [*, errW_none, errW_some] <;> rfl), by repeat (first | (with_reducible first | exact HB.out | apply below_alloc | apply pw_below_drewN | apply below_drew1 | refine below_set ?_ GE221.out) | exact HB.out)⟩
end Go.Proofs.Ytjmhhgnknjfnlaa.PFnExactReadLayout
