-- functions and their walks: written by a program of this claim's
import Derived.Test.YtbjambmdononiaaProg
import Derived.Test.YtbjambmdononiaaVFnExactPictureParts
import Derived.Test.YtbjambmdononiaaZFnExactPicturePartsy0
namespace Go.Proofs.Ytbjambmdononiaa.PFnExactPictureParts
open Go.RowKit Go.Proofs.YtbjambmdononiaaW.PrintWords Go.Proofs.YtbjambmdononiaaW.PrintLast Go.Proofs.YtbjambmdononiaaW.PrintMore
attribute [local go_sem] max2_int min2_int max_two min_two max_three min_three max_four min_four
set_option linter.unusedVariables false
set_option linter.unusedSimpArgs false
theorem Bb_0 {P : Prop} (h : P := by exact ⟨(blk_cell BK160.out 0).trans rfl, (blk_cell BK160.out 1).trans rfl, (blk_cell BK160.out 2).trans rfl, (blk_cell BK160.out 3).trans rfl, (blk_cell BK161.out 0).trans rfl, (blk_cell BK161.out 1).trans rfl, (blk_cell BK161.out 2).trans rfl, (blk_cell BK159.out 0).trans rfl, (blk_cell BK159.out 1).trans rfl, (blk_cell BK159.out 2).trans rfl, (blk_cell BK159.out 3).trans rfl⟩) : P := h
theorem Bb_1 {P : Prop} (h : P := by (with_reducible repeat (first | refine blk_drewN ?_ _ | refine blk_drew ?_ | refine blk_alloc ?_ _)); refine blk_put (cs := #[.int .i64 0, .int .i64 0, .int .i64 0]) ?_ 2 _ rfl; (with_reducible repeat (first | refine blk_drewN ?_ _ | refine blk_drew ?_ | refine blk_alloc ?_ _)); refine blk_put (cs := #[.int .i64 0, .int .i64 0, .int .i64 0]) ?_ 1 _ rfl; (with_reducible repeat (first | refine blk_drewN ?_ _ | refine blk_drew ?_ | refine blk_alloc ?_ _)); refine blk_put (cs := #[.int .i64 0, .int .i64 0, .int .i64 0]) ?_ 0 _ rfl; (with_reducible repeat (first | refine blk_drewN ?_ _ | refine blk_drew ?_ | refine blk_alloc ?_ _)); exact BK167.out) : P := h
theorem Bb_2 {P : Prop} (h : P := by (try simp only [List.map_toArray, List.map_cons, List.map_nil]); first | done | rfl | (simp only [List.length_drop, List.length_take]; rfl)) : P := h
theorem Bb_3 {P : Prop} (h : P := by repeat (first | exact Drawn0.refl _ | apply Drawn0.step)) : P := h
theorem Bb_4 {P : Prop} (h : P := by first | rfl | (simp [errW_none, errW_some] <;> rfl) | (simp [*, errW_none, errW_some] <;> rfl)) : P := h
theorem Bb_5 {P : Prop} (h : P := by first | rfl | (simp; done) | (simp [*]; done)) : P := h
theorem Bb_6 {P : Prop} (h : P := by (with_reducible repeat (first | refine blk_drewN ?_ _ | refine blk_drew ?_ | refine blk_alloc ?_ _)); exact BK165.out) : P := h
theorem Bb_7 {P : Prop} (h : P := by (with_reducible repeat (first | refine blk_drewN ?_ _ | refine blk_drew ?_ | refine blk_alloc ?_ _)); exact BK166.out) : P := h
theorem Bb_8 {P : Prop} (h : P := by (with_reducible repeat (first | refine blk_drewN ?_ _ | refine blk_drew ?_ | refine blk_alloc ?_ _)); exact BK167.out) : P := h
theorem Bb_9 {P : Prop} (h : P := by first | (with_reducible assumption) | assumption) : P := h
theorem Bb_10 {P : Prop} (h : P := by first | rfl | (simp; done) | (simp only [← hji4, ← hji12, ← hji14] <;> (first | rfl | simp)) | (simp [*]; done)) : P := h
theorem Bb_11 {P : Prop} (h : P := by first | rfl | (simp; done) | (simp only [← hji4, ← hji20, ← hji22] <;> (first | rfl | simp)) | (simp [*]; done)) : P := h
theorem Bb_12 {P : Prop} (h : P := by first | rfl | (simp; done) | (simp only [← hji28, ← hji30] <;> (first | rfl | simp)) | (simp [*]; done)) : P := h
theorem Bb_13 {P : Prop} (h : P := by first | rfl | (simp [errW_none, errW_some] <;> rfl) | (simp only [← hji10, ← hji12]; first | rfl | (simp [errW_none, errW_some] <;> rfl)) | (simp [*, errW_none, errW_some] <;> rfl)) : P := h
theorem Bb_14 {P : Prop} (h : P := by (try simp only [List.map_toArray, List.map_cons, List.map_nil]); first | done | (simp only [hji4]; rfl) | rfl | (simp only [List.length_drop, List.length_take]; rfl)) : P := h
theorem Bb_15 {P : Prop} (h : P := by first | rfl | (simp; done) | (simp only [← hji4] <;> (first | rfl | simp)) | (simp [*]; done)) : P := h
def spec_l03ReadUe.l0 : Nat → ByteArray → Int → Int → Option (Int × Int × Bool)
 | 0, _, _, _ => none
 | k + 1, x0, x1, x7 => if (wrap64 (x1 + x7)) < (x0.size : Int) then (if 0 ≤ (wrap64 (x1 + x7)) then (if (bt x0 (wrap64 (x1 + x7))) = 48 then (if x7 < 21 then (spec_l03ReadUe.l0 k x0 x1 (wrap64 (x7 + 1))) else ((spec_l02Read.f k x0 (wrap64 (x1 + x7)) (wrap64 (x7 + 1))).bind fun bt144 => (if bt144.2.2 = true then (if 0 ≤ (IntKind.u64.wrap (x7)) then (if bt144.1 < (shl .i64 1 (IntKind.u64.wrap (x7))) then (some (0, 0, false)) else (if (wrap64 (bt144.1 - 1)) > 1000000 then (some (0, 0, false)) else (some (wrap64 (bt144.1 - 1), bt144.2.1, true)))) else (none)) else (some (0, 0, false))))) else ((spec_l02Read.f k x0 (wrap64 (x1 + x7)) (wrap64 (x7 + 1))).bind fun bt147 => (if bt147.2.2 = true then (if 0 ≤ (IntKind.u64.wrap (x7)) then (if bt147.1 < (shl .i64 1 (IntKind.u64.wrap (x7))) then (some (0, 0, false)) else (if (wrap64 (bt147.1 - 1)) > 1000000 then (some (0, 0, false)) else (some (wrap64 (bt147.1 - 1), bt147.2.1, true)))) else (none)) else (some (0, 0, false))))) else (none)) else ((spec_l02Read.f k x0 (wrap64 (x1 + x7)) (wrap64 (x7 + 1))).bind fun bt150 => (if bt150.2.2 = true then (if 0 ≤ (IntKind.u64.wrap (x7)) then (if bt150.1 < (shl .i64 1 (IntKind.u64.wrap (x7))) then (some (0, 0, false)) else (if (wrap64 (bt150.1 - 1)) > 1000000 then (some (0, 0, false)) else (some (wrap64 (bt150.1 - 1), bt150.2.1, true)))) else (none)) else (some (0, 0, false))))
def spec_l03ReadUe.f (k : Nat) (a0 : ByteArray) (a1 : Int) : Option (Int × Int × Bool) := spec_l03ReadUe.l0 k a0 a1 0
theorem spec_l03ReadUe.mono_l : ∀ k, (∀ y0 y1 y2, LeO (spec_l03ReadUe.l0 k y0 y1 y2) (spec_l03ReadUe.l0 (k + 1) y0 y1 y2))
 | 0 => fun _ _ _ r h => by simp [spec_l03ReadUe.l0] at h
 | k + 1 => by
  have ih0 := spec_l03ReadUe.mono_l k
  ·intro y0 y1 y2
   unfold spec_l03ReadUe.l0
   repeat' first
   | (with_reducible exact ih0 _ _ _)
   | (with_reducible exact spec_l02Read.mono _ _ _ _)
   | (with_reducible exact LeO.refl _)
   | (with_reducible exact LeO.none _)
   | (with_reducible refine LeO.ite ?_ ?_)
   | (with_reducible refine LeO.bind ?_ (fun _ => ?_))
   | exact ih0 _ _ _
   | exact spec_l02Read.mono _ _ _ _
   | exact LeO.none _
   | refine LeO.ite ?_ ?_
   | refine LeO.bind ?_ (fun _ => ?_)
theorem spec_l03ReadUe.mono : ∀ a0 a1 k, LeO (spec_l03ReadUe.f k a0 a1) (spec_l03ReadUe.f (k + 1) a0 a1) := by
 intro a0 a1 k; have ih0 := spec_l03ReadUe.mono_l k; unfold spec_l03ReadUe.f
 repeat' first
   | (with_reducible exact ih0 _ _ _)
   | (with_reducible exact spec_l02Read.mono _ _ _ _)
   | (with_reducible exact LeO.refl _)
   | (with_reducible exact LeO.none _)
   | (with_reducible refine LeO.ite ?_ ?_)
   | (with_reducible refine LeO.bind ?_ (fun _ => ?_))
   | exact ih0 _ _ _
   | exact spec_l02Read.mono _ _ _ _
   | exact LeO.none _
   | refine LeO.ite ?_ ?_
   | refine LeO.bind ?_ (fun _ => ?_)
set_option maxHeartbeats 8000000 in
set_option maxRecDepth 100000 in
theorem spec_l03ReadUe.calls (k : Nat) (a0 : ByteArray) (a1 : Int) (r1 : Int) (r2 : Int) (r3 : Bool) (w : World) (h : spec_l03ReadUe.f k a0 a1 = some (r1, r2, r3)) :
  Calls Try.prog 230 #[.string a0, .int .i64 a1] w fun e w' => e = .returned (.tuple #[.int .i64 r1, .int .i64 r2, .bool r3]) ∧ Drawn0 w w' := by
 have H : (spec_l03ReadUe.l0 k a0 a1 0) = some (r1, r2, r3) := h; clear h; have H' := Aside0.mk H; clear H; go_enter Try.func230, Try.ntmps230; go_wp2; go_loopg [7] k (fun kq v7 w' => ∃ (x7_1 : Int), v7 = .int .i64 x7_1 ∧ Aside0 (spec_l03ReadUe.l0 kq a0 a1 x7_1 = some (r1, r2, r3)) ∧ Aside0 (kq ≤ k) ∧ Drawn0 w w')
 case atStart => exact ⟨(0), Bb_5, H', ⟨Nat.le_refl _⟩, Bb_3⟩
 case round =>
  clear H'; try clear c2; try clear p2
  obtain ⟨x7_1, rfl, HA, HK1, ⟨m1, rfl⟩⟩ := hrel; cases gk with
  | zero => exact absurd HA.out (by simp [spec_l03ReadUe.l0])
  | succ k1 =>
   have H := HA.out; clear HA; simp only [spec_l03ReadUe.l0] at H; by_cases c3 : (wrap64 (a1 + x7_1)) < (a0.size : Int)
   ·rw [if_pos c3] at H
    have c3b0 : decide ((wrap64 (a1 + x7_1)) < (a0.size : Int)) = true := decide_eq_true c3; clear c3; obtain ⟨ji4, hji4⟩ : ∃ j_ : Int, (wrap64 (a1 + x7_1)) = j_ := ⟨_, rfl⟩; (first | rw [hji4] at H | simp only [hji4] at H); (try rw [hji4] at c3b0); have hji4w : (IntKind.i64.wrap (a1 + x7_1)) = ji4 := (i64_w _).trans hji4; by_cases c5 : 0 ≤ (ji4)
    ·rw [if_pos c5] at H
     have c5b0 : decide (0 ≤ (ji4)) = true := decide_eq_true c5; clear c5; by_cases c7 : (bt a0 (ji4)) = 48
     ·rw [if_pos c7] at H
      have c7b0 : ((bt a0 (ji4)) == 48) = true := beq_iff_eq.mpr c7; have c7b1 : ((bt a0 (ji4)) != 48) = false := bne_eq_false_iff_eq.mpr c7; clear c7; by_cases c8 : x7_1 < 21
      ·rw [if_pos c8] at H
       have c8b0 : decide (x7_1 < 21) = true := decide_eq_true c8; clear c8; have H' := Aside0.mk H; clear H; have p6 : 0 ≤ ((ji4) : Int) := of_decide_eq_true Bb_9; have q6 : (ji4) < (a0.size : Int) := of_decide_eq_true Bb_9; have hx6 := bt_at a0 (ji4); replace p6 := eq_true p6; replace q6 := eq_true q6; go_wp2; go_roundg k1
       case measure => have := HK1.out; omega
       case rel => exact ⟨(wrap64 (x7_1 + 1)), Bb_5, H', ⟨(by have := HK1.out; omega)⟩, Bb_3⟩
      ·rw [if_neg c8] at H
       have c8b0 : decide (x7_1 < 21) = false := decide_eq_false c8; clear c8; replace H := Option.bind_eq_some_iff.mp H; obtain ⟨⟨t144, t145, t146⟩, A90, H⟩ := H; try dsimp only at H
       have A9 := Aside0.mk A90; clear A90; have HC10 := Aside0.mk H; clear H; have p6 : 0 ≤ ((ji4) : Int) := of_decide_eq_true Bb_9; have q6 : (ji4) < (a0.size : Int) := of_decide_eq_true Bb_9; have hx6 := bt_at a0 (ji4); replace p6 := eq_true p6; replace q6 := eq_true q6; go_upto_region 5 with (first | ((with_reducible refine gate_callee (f := 231) rfl ?_); refine gA_ (some 38) Try.func231 (spec_l02Read.calls _ _ _ _ _ _ _ _ A9.out) ?_ (hargs := Bb_14); rintro e w' ⟨rfl, ⟨nd, rfl⟩⟩; refine ⟨_, rfl, ?_⟩))
       (try simp only [Act.put, List.setIfInBounds_toArray, List.set_cons_zero, List.set_cons_succ]); have H := HC10.out; clear HC10; by_cases c11 : t146 = true
       ·subst c11
        rw [if_pos rfl] at H; obtain ⟨ji12, hji12⟩ : ∃ j_ : Int, (IntKind.u64.wrap (x7_1)) = j_ := ⟨_, rfl⟩; (first | rw [hji12] at H | simp only [hji12] at H); by_cases c13 : 0 ≤ (ji12)
        ·rw [if_pos c13] at H
         have c13b0 := eq_true c13; have c13b1 : decide (0 ≤ (ji12)) = true := decide_eq_true c13; clear c13; obtain ⟨ji14, hji14⟩ : ∃ j_ : Int, (shl .i64 1 (ji12)) = j_ := ⟨_, rfl⟩; (first | rw [hji14] at H | simp only [hji14] at H); have hji14_ : (IntKind.i64.wrap (1 * 2 ^ min (ji12).toNat 64)) = ji14 := hji14; have hji14z : (ji12) ≤ 64 → (IntKind.i64.wrap (1 * 2 ^ (ji12).toNat)) = ji14 := shl_small hji14; have hji14u : (IntKind.i64.wrap (2 ^ min (ji12).toNat 64)) = ji14 := by have h_ := hji14_; rw [Int.one_mul] at h_; exact h_
         have hji14v : (ji12) ≤ 64 → (IntKind.i64.wrap (2 ^ (ji12).toNat)) = ji14 := fun hle_ => by have h_ := hji14z hle_; rw [Int.one_mul] at h_; exact h_
         have hji14y : (wrap64 (1 * 2 ^ min (ji12).toNat 64)) = ji14 := (i64_w _).symm.trans hji14_; have hji14x : (ji12) ≤ 64 → (wrap64 (1 * 2 ^ (ji12).toNat)) = ji14 := fun h_ => (i64_w _).symm.trans (hji14z h_)
         by_cases c15 : t144 < (ji14)
         ·rw [if_pos c15] at H
          have c15b0 : decide (t144 < (ji14)) = true := decide_eq_true c15; clear c15; (first | rw [c15b0] | (simp only [i64_w, i32_w]; rw [c15b0]) | skip); simp only [Option.some.injEq, Prod.mk.injEq] at H; obtain ⟨rfl, rfl, rfl⟩ := H; go_wp2; go_ret3
          exact ⟨Bb_10, Bb_3⟩
         ·rw [if_neg c15] at H
          have c15b0 : decide (t144 < (ji14)) = false := decide_eq_false c15; clear c15; (first | rw [c15b0] | (simp only [i64_w, i32_w]; rw [c15b0]) | skip); by_cases c16 : (wrap64 (t144 - 1)) > 1000000
          ·rw [if_pos c16] at H
           have c16b0 : decide (1000000 < (wrap64 (t144 - 1))) = true := decide_eq_true c16; clear c16; simp only [Option.some.injEq, Prod.mk.injEq] at H; obtain ⟨rfl, rfl, rfl⟩ := H; go_wp2; go_ret3
           exact ⟨Bb_10, Bb_3⟩
          ·rw [if_neg c16] at H
           have c16b0 : decide (1000000 < (wrap64 (t144 - 1))) = false := decide_eq_false c16; clear c16; simp only [Option.some.injEq, Prod.mk.injEq] at H; obtain ⟨rfl, rfl, rfl⟩ := H; go_wp2; go_ret3
           exact ⟨Bb_10, Bb_3⟩
        ·rw [if_neg c13] at H
         exact absurd H (by simp)
       ·replace c11 := Bool.eq_false_iff.mpr c11
        subst c11; rw [if_neg (show ¬ (false = true) by decide)] at H; simp only [Option.some.injEq, Prod.mk.injEq] at H; obtain ⟨rfl, rfl, rfl⟩ := H; go_wp2; go_ret3
        exact ⟨Bb_15, Bb_3⟩
     ·rw [if_neg c7] at H
      have c7b0 : ((bt a0 (ji4)) == 48) = false := beq_eq_false_iff_ne.mpr c7; have c7b1 : ((bt a0 (ji4)) != 48) = true := bne_iff_ne.mpr c7; replace H := Option.bind_eq_some_iff.mp H; obtain ⟨⟨t147, t148, t149⟩, A170, H⟩ := H; try dsimp only at H
      have A17 := Aside0.mk A170; clear A170; have HC18 := Aside0.mk H; clear H; have p6 : 0 ≤ ((ji4) : Int) := of_decide_eq_true Bb_9; have q6 : (ji4) < (a0.size : Int) := of_decide_eq_true Bb_9; have hx6 := bt_at a0 (ji4); replace p6 := eq_true p6; replace q6 := eq_true q6; go_upto_region 5 with (first | ((with_reducible refine gate_callee (f := 231) rfl ?_); refine gA_ (some 38) Try.func231 (spec_l02Read.calls _ _ _ _ _ _ _ _ A17.out) ?_ (hargs := Bb_14); rintro e w' ⟨rfl, ⟨nd, rfl⟩⟩; refine ⟨_, rfl, ?_⟩))
      (try simp only [Act.put, List.setIfInBounds_toArray, List.set_cons_zero, List.set_cons_succ]); have H := HC18.out; clear HC18; by_cases c19 : t149 = true
      ·subst c19
       rw [if_pos rfl] at H; obtain ⟨ji20, hji20⟩ : ∃ j_ : Int, (IntKind.u64.wrap (x7_1)) = j_ := ⟨_, rfl⟩; (first | rw [hji20] at H | simp only [hji20] at H); by_cases c21 : 0 ≤ (ji20)
       ·rw [if_pos c21] at H
        have c21b0 := eq_true c21; have c21b1 : decide (0 ≤ (ji20)) = true := decide_eq_true c21; clear c21; obtain ⟨ji22, hji22⟩ : ∃ j_ : Int, (shl .i64 1 (ji20)) = j_ := ⟨_, rfl⟩; (first | rw [hji22] at H | simp only [hji22] at H); have hji22_ : (IntKind.i64.wrap (1 * 2 ^ min (ji20).toNat 64)) = ji22 := hji22; have hji22z : (ji20) ≤ 64 → (IntKind.i64.wrap (1 * 2 ^ (ji20).toNat)) = ji22 := shl_small hji22; have hji22u : (IntKind.i64.wrap (2 ^ min (ji20).toNat 64)) = ji22 := by have h_ := hji22_; rw [Int.one_mul] at h_; exact h_
        have hji22v : (ji20) ≤ 64 → (IntKind.i64.wrap (2 ^ (ji20).toNat)) = ji22 := fun hle_ => by have h_ := hji22z hle_; rw [Int.one_mul] at h_; exact h_
        have hji22y : (wrap64 (1 * 2 ^ min (ji20).toNat 64)) = ji22 := (i64_w _).symm.trans hji22_; have hji22x : (ji20) ≤ 64 → (wrap64 (1 * 2 ^ (ji20).toNat)) = ji22 := fun h_ => (i64_w _).symm.trans (hji22z h_)
        by_cases c23 : t147 < (ji22)
        ·rw [if_pos c23] at H
         have c23b0 : decide (t147 < (ji22)) = true := decide_eq_true c23; clear c23; (first | rw [c23b0] | (simp only [i64_w, i32_w]; rw [c23b0]) | skip); simp only [Option.some.injEq, Prod.mk.injEq] at H; obtain ⟨rfl, rfl, rfl⟩ := H; go_wp2; go_ret3
         exact ⟨Bb_11, Bb_3⟩
        ·rw [if_neg c23] at H
         have c23b0 : decide (t147 < (ji22)) = false := decide_eq_false c23; clear c23; (first | rw [c23b0] | (simp only [i64_w, i32_w]; rw [c23b0]) | skip); by_cases c24 : (wrap64 (t147 - 1)) > 1000000
         ·rw [if_pos c24] at H
          have c24b0 : decide (1000000 < (wrap64 (t147 - 1))) = true := decide_eq_true c24; clear c24; simp only [Option.some.injEq, Prod.mk.injEq] at H; obtain ⟨rfl, rfl, rfl⟩ := H; go_wp2; go_ret3
          exact ⟨Bb_11, Bb_3⟩
         ·rw [if_neg c24] at H
          have c24b0 : decide (1000000 < (wrap64 (t147 - 1))) = false := decide_eq_false c24; clear c24; simp only [Option.some.injEq, Prod.mk.injEq] at H; obtain ⟨rfl, rfl, rfl⟩ := H; go_wp2; go_ret3
          exact ⟨Bb_11, Bb_3⟩
       ·rw [if_neg c21] at H
        exact absurd H (by simp)
      ·replace c19 := Bool.eq_false_iff.mpr c19
       subst c19; rw [if_neg (show ¬ (false = true) by decide)] at H; simp only [Option.some.injEq, Prod.mk.injEq] at H; obtain ⟨rfl, rfl, rfl⟩ := H; go_wp2; go_ret3
       exact ⟨Bb_15, Bb_3⟩
    ·rw [if_neg c5] at H
     exact absurd H (by simp)
   ·rw [if_neg c3] at H
    have c3b0 : decide ((wrap64 (a1 + x7_1)) < (a0.size : Int)) = false := decide_eq_false c3; clear c3; replace H := Option.bind_eq_some_iff.mp H; obtain ⟨⟨t150, t151, t152⟩, A250, H⟩ := H; try dsimp only at H
    have A25 := Aside0.mk A250; clear A250; have HC26 := Aside0.mk H; clear H; go_upto_region 5 with (first | ((with_reducible refine gate_callee (f := 231) rfl ?_); refine gA_ (some 38) Try.func231 (spec_l02Read.calls _ _ _ _ _ _ _ _ A25.out) ?_; rintro e w' ⟨rfl, ⟨nd, rfl⟩⟩; refine ⟨_, rfl, ?_⟩))
    (try simp only [Act.put, List.setIfInBounds_toArray, List.set_cons_zero, List.set_cons_succ]); have H := HC26.out; clear HC26; by_cases c27 : t152 = true
    ·subst c27
     rw [if_pos rfl] at H; obtain ⟨ji28, hji28⟩ : ∃ j_ : Int, (IntKind.u64.wrap (x7_1)) = j_ := ⟨_, rfl⟩; (first | rw [hji28] at H | simp only [hji28] at H); by_cases c29 : 0 ≤ (ji28)
     ·rw [if_pos c29] at H
      have c29b0 := eq_true c29; have c29b1 : decide (0 ≤ (ji28)) = true := decide_eq_true c29; clear c29; obtain ⟨ji30, hji30⟩ : ∃ j_ : Int, (shl .i64 1 (ji28)) = j_ := ⟨_, rfl⟩; (first | rw [hji30] at H | simp only [hji30] at H); have hji30_ : (IntKind.i64.wrap (1 * 2 ^ min (ji28).toNat 64)) = ji30 := hji30; have hji30z : (ji28) ≤ 64 → (IntKind.i64.wrap (1 * 2 ^ (ji28).toNat)) = ji30 := shl_small hji30; have hji30u : (IntKind.i64.wrap (2 ^ min (ji28).toNat 64)) = ji30 := by have h_ := hji30_; rw [Int.one_mul] at h_; exact h_
      have hji30v : (ji28) ≤ 64 → (IntKind.i64.wrap (2 ^ (ji28).toNat)) = ji30 := fun hle_ => by have h_ := hji30z hle_; rw [Int.one_mul] at h_; exact h_
      have hji30y : (wrap64 (1 * 2 ^ min (ji28).toNat 64)) = ji30 := (i64_w _).symm.trans hji30_; have hji30x : (ji28) ≤ 64 → (wrap64 (1 * 2 ^ (ji28).toNat)) = ji30 := fun h_ => (i64_w _).symm.trans (hji30z h_)
      by_cases c31 : t150 < (ji30)
      ·rw [if_pos c31] at H
       have c31b0 : decide (t150 < (ji30)) = true := decide_eq_true c31; clear c31; (first | rw [c31b0] | (simp only [i64_w, i32_w]; rw [c31b0]) | skip); simp only [Option.some.injEq, Prod.mk.injEq] at H; obtain ⟨rfl, rfl, rfl⟩ := H; go_wp2; go_ret3
       exact ⟨Bb_12, Bb_3⟩
      ·rw [if_neg c31] at H
       have c31b0 : decide (t150 < (ji30)) = false := decide_eq_false c31; clear c31; (first | rw [c31b0] | (simp only [i64_w, i32_w]; rw [c31b0]) | skip); by_cases c32 : (wrap64 (t150 - 1)) > 1000000
       ·rw [if_pos c32] at H
        have c32b0 : decide (1000000 < (wrap64 (t150 - 1))) = true := decide_eq_true c32; clear c32; simp only [Option.some.injEq, Prod.mk.injEq] at H; obtain ⟨rfl, rfl, rfl⟩ := H; go_wp2; go_ret3
        exact ⟨Bb_12, Bb_3⟩
       ·rw [if_neg c32] at H
        have c32b0 : decide (1000000 < (wrap64 (t150 - 1))) = false := decide_eq_false c32; clear c32; simp only [Option.some.injEq, Prod.mk.injEq] at H; obtain ⟨rfl, rfl, rfl⟩ := H; go_wp2; go_ret3
        exact ⟨Bb_12, Bb_3⟩
     ·rw [if_neg c29] at H
      exact absurd H (by simp)
    ·replace c27 := Bool.eq_false_iff.mpr c27
     subst c27; rw [if_neg (show ¬ (false = true) by decide)] at H; simp only [Option.some.injEq, Prod.mk.injEq] at H; obtain ⟨rfl, rfl, rfl⟩ := H; go_wp2; go_ret3
     exact ⟨Bb_5, Bb_3⟩
end Go.Proofs.Ytbjambmdononiaa.PFnExactPictureParts
namespace Go.Proofs.Ytbjambmdononiaa.PFnExactPictureParts
open Go.RowKit Go.Proofs.YtbjambmdononiaaW.PrintWords Go.Proofs.YtbjambmdononiaaW.PrintLast Go.Proofs.YtbjambmdononiaaW.PrintMore
attribute [local go_sem] max2_int min2_int max_two min_two max_three min_three max_four min_four
set_option linter.unusedVariables false
set_option linter.unusedSimpArgs false
def spec_OpenSe.f (a0 : Int) : Option (Int × Bool) := (spec_l01In.f a0 0 1000000).bind fun t153 => (if t153 = true then (if (Int.tmod a0 2) = 1 then (some (wrap64 (Int.tdiv (wrap64 (a0 + 1)) 2), true)) else (some (wrap64 (-(wrap64 (Int.tdiv a0 2))), true))) else (some (0, false)))
set_option maxHeartbeats 8000000 in
set_option maxRecDepth 100000 in
theorem spec_OpenSe.calls (a0 : Int) (r1 : Int) (r2 : Bool) (w : World) (h : spec_OpenSe.f a0 = some (r1, r2)) :
  Calls Try.prog 278 #[.int .i64 a0] w fun e w' => e = .returned (.tuple #[.int .i64 r1, .bool r2]) ∧ Drawn0 w w' := by
 have H : ((spec_l01In.f a0 0 1000000).bind fun t153 => (if t153 = true then (if (Int.tmod a0 2) = 1 then (some (wrap64 (Int.tdiv (wrap64 (a0 + 1)) 2), true)) else (some (wrap64 (-(wrap64 (Int.tdiv a0 2))), true))) else (some (0, false)))) = some (r1, r2) := h; clear h; replace H := Option.bind_eq_some_iff.mp H; obtain ⟨t153, A20, H⟩ := H; try dsimp only at H
 have A2 := Aside0.mk A20; clear A20; have HC3 := Aside0.mk H; clear H; go_enter Try.func278, Try.ntmps278; go_upto_if 6 with (first | ((with_reducible refine gate_callee (f := 107) rfl ?_); refine gA_ (some 5) Try.func107 (spec_l01In.calls _ _ _ _ _ A2.out) ?_; rintro e w' ⟨rfl, ⟨nd, rfl⟩⟩; refine ⟨_, rfl, ?_⟩))
 (try simp only [Act.put, List.setIfInBounds_toArray, List.set_cons_zero, List.set_cons_succ]); have H := HC3.out; clear HC3; by_cases c4 : t153 = true
 ·subst c4
  rw [if_pos rfl] at H; by_cases c5 : (Int.tmod a0 2) = 1
  ·rw [if_pos c5] at H
   have c5b0 : ((Int.tmod a0 2) == 1) = true := beq_iff_eq.mpr c5; have c5b1 : ((Int.tmod a0 2) != 1) = false := bne_eq_false_iff_eq.mpr c5; clear c5; (first | rw [c5b0] | (simp only [i64_w, i32_w]; rw [c5b0]) | skip); simp only [Option.some.injEq, Prod.mk.injEq] at H; obtain ⟨rfl, rfl⟩ := H; go_wp2; go_ret2
   exact ⟨Bb_5, Bb_3⟩
  ·rw [if_neg c5] at H
   have c5b0 : ((Int.tmod a0 2) == 1) = false := beq_eq_false_iff_ne.mpr c5; have c5b1 : ((Int.tmod a0 2) != 1) = true := bne_iff_ne.mpr c5; (first | rw [c5b0] | (simp only [i64_w, i32_w]; rw [c5b0]) | skip); simp only [Option.some.injEq, Prod.mk.injEq] at H; obtain ⟨rfl, rfl⟩ := H; go_wp2; go_ret2
   exact ⟨Bb_5, Bb_3⟩
 ·replace c4 := Bool.eq_false_iff.mpr c4
  subst c4; rw [if_neg (show ¬ (false = true) by decide)] at H; simp only [Option.some.injEq, Prod.mk.injEq] at H; obtain ⟨rfl, rfl⟩ := H; go_wp2; go_ret2
  exact ⟨Bb_5, Bb_3⟩
end Go.Proofs.Ytbjambmdononiaa.PFnExactPictureParts
namespace Go.Proofs.Ytbjambmdononiaa.PFnExactPictureParts
open Go.RowKit Go.Proofs.YtbjambmdononiaaW.PrintWords Go.Proofs.YtbjambmdononiaaW.PrintLast Go.Proofs.YtbjambmdononiaaW.PrintMore
attribute [local go_sem] max2_int min2_int max_two min_two max_three min_three max_four min_four
set_option linter.unusedVariables false
set_option linter.unusedSimpArgs false
def spec_l03ReadSe.f (k : Nat) (a0 : ByteArray) (a1 : Int) : Option (Int × Int × Bool) := (spec_l03ReadUe.f k a0 a1).bind fun bt154 => (if bt154.2.2 = true then ((spec_OpenSe.f bt154.1).bind fun bt157 => (some (bt157.1, bt154.2.1, true))) else (some (0, 0, false)))
theorem spec_l03ReadSe.mono : ∀ a0 a1 k, LeO (spec_l03ReadSe.f k a0 a1) (spec_l03ReadSe.f (k + 1) a0 a1) := by
 intro a0 a1 k; unfold spec_l03ReadSe.f
 repeat' first
   | (with_reducible exact spec_l03ReadUe.mono _ _ _)
   | (with_reducible exact LeO.refl _)
   | (with_reducible exact LeO.none _)
   | (with_reducible refine LeO.ite ?_ ?_)
   | (with_reducible refine LeO.bind ?_ (fun _ => ?_))
   | exact spec_l03ReadUe.mono _ _ _
   | exact LeO.none _
   | refine LeO.ite ?_ ?_
   | refine LeO.bind ?_ (fun _ => ?_)
set_option maxHeartbeats 8000000 in
set_option maxRecDepth 100000 in
theorem spec_l03ReadSe.calls (k : Nat) (a0 : ByteArray) (a1 : Int) (r1 : Int) (r2 : Int) (r3 : Bool) (w : World) (h : spec_l03ReadSe.f k a0 a1 = some (r1, r2, r3)) :
  Calls Try.prog 232 #[.string a0, .int .i64 a1] w fun e w' => e = .returned (.tuple #[.int .i64 r1, .int .i64 r2, .bool r3]) ∧ Drawn0 w w' := by
 have H : ((spec_l03ReadUe.f k a0 a1).bind fun bt154 => (if bt154.2.2 = true then ((spec_OpenSe.f bt154.1).bind fun bt157 => (some (bt157.1, bt154.2.1, true))) else (some (0, 0, false)))) = some (r1, r2, r3) := h; clear h; replace H := Option.bind_eq_some_iff.mp H; obtain ⟨⟨t154, t155, t156⟩, A30, H⟩ := H; try dsimp only at H
 have A3 := Aside0.mk A30; clear A30; have HC4 := Aside0.mk H; clear H; go_enter Try.func232, Try.ntmps232; go_upto_if 20 with (first | ((with_reducible refine gate_callee (f := 230) rfl ?_); refine gA_ (some 15) Try.func230 (spec_l03ReadUe.calls _ _ _ _ _ _ _ A3.out) ?_; rintro e w' ⟨rfl, ⟨nd, rfl⟩⟩; refine ⟨_, rfl, ?_⟩))
 (try simp only [Act.put, List.setIfInBounds_toArray, List.set_cons_zero, List.set_cons_succ]); have H := HC4.out; clear HC4; by_cases c5 : t156 = true
 ·subst c5
  rw [if_pos rfl] at H; replace H := Option.bind_eq_some_iff.mp H; obtain ⟨⟨t157, t158⟩, A60, H⟩ := H; try dsimp only at H
  have A6 := Aside0.mk A60; clear A60; simp only [Option.some.injEq, Prod.mk.injEq] at H; obtain ⟨rfl, rfl, rfl⟩ := H; go_wp2_with (first | ((with_reducible refine gate_callee (f := 278) rfl ?_); refine gA_ (some 23) Try.func278 (spec_OpenSe.calls _ _ _ _ A6.out) ?_; rintro e w' ⟨rfl, ⟨nd, rfl⟩⟩; refine ⟨_, rfl, ?_⟩)); go_ret3
  exact ⟨Bb_5, Bb_3⟩
 ·replace c5 := Bool.eq_false_iff.mpr c5
  subst c5; rw [if_neg (show ¬ (false = true) by decide)] at H; simp only [Option.some.injEq, Prod.mk.injEq] at H; obtain ⟨rfl, rfl, rfl⟩ := H; go_wp2; go_ret3
  exact ⟨Bb_5, Bb_3⟩
end Go.Proofs.Ytbjambmdononiaa.PFnExactPictureParts
namespace Go.Proofs.Ytbjambmdononiaa.PFnExactPictureParts
open Go.RowKit Go.Proofs.YtbjambmdononiaaW.PrintWords Go.Proofs.YtbjambmdononiaaW.PrintLast Go.Proofs.YtbjambmdononiaaW.PrintMore
attribute [local go_sem] max2_int min2_int max_two min_two max_three min_three max_four min_four
set_option linter.unusedVariables false
set_option linter.unusedSimpArgs false
def spec_HeadOk.f (k : Nat) (a0_0 : Int) (a0_1 : Int) (l0_2 : List Int) (l0_3 : List Int) (a1_0 : Int) (a1_1 : Bool) (a1_2 : Bool) (a1_3 : Bool) (a2_0 : Int) (a2_1 : Int) (a2_2 : Int) : Option (Bool) := (spec_ParOk.f a1_0 a1_1 a1_2 a1_3).bind fun t162 => (if t162 = true then (if a2_0 ≥ 0 then ((spec_TilesOf.f k a0_0 a0_1 l0_2 l0_3).bind fun t163 => (if a2_0 < t163 then (if a2_1 ≥ 0 then (if 0 ≤ (IntKind.u64.wrap (a0_1)) then (if a2_1 < (shl .i64 1 (IntKind.u64.wrap (a0_1))) then ((spec_l01In.f a2_2 0 40).bind fun t164 => (some t164)) else (some false)) else (none)) else (some false)) else (some false))) else (some false)) else (some false))
theorem spec_HeadOk.mono : ∀ a0 a1 a2 a3 a4 a5 a6 a7 a8 a9 a10 k, LeO (spec_HeadOk.f k a0 a1 a2 a3 a4 a5 a6 a7 a8 a9 a10) (spec_HeadOk.f (k + 1) a0 a1 a2 a3 a4 a5 a6 a7 a8 a9 a10) := by
 intro a0 a1 a2 a3 a4 a5 a6 a7 a8 a9 a10 k; unfold spec_HeadOk.f
 repeat' first
   | (with_reducible exact spec_TilesOf.mono _ _ _ _ _)
   | (with_reducible exact LeO.refl _)
   | (with_reducible exact LeO.none _)
   | (with_reducible refine LeO.ite ?_ ?_)
   | (with_reducible refine LeO.bind ?_ (fun _ => ?_))
   | exact spec_TilesOf.mono _ _ _ _ _
   | exact LeO.none _
   | refine LeO.ite ?_ ?_
   | refine LeO.bind ?_ (fun _ => ?_)
def spec_HeadOk.T1 : Bool × List (List Nat × List Nat) := (true, [([], []), ([0], [0]), ([1, 1], [1]), ([2], [2]), ([3, 2], [2, 3]), ([4, 2], [2, 4]), ([2, 5], [2, 5]), ([6, 2], [6]), ([7], [7]), ([8, 7], [7, 8]), ([7], [7]), ([10, 7, 7], [7, 10]), ([9, 11, 7], [7, 9, 11]), ([7, 12], [7, 12]), ([13, 11], [13]), ([14], [14]), ([15, 14], [14, 15]), ([16, 14], [14, 16]), ([14, 17], [14, 17]), ([18, 14], [18]), ([19], [19]), ([20, 19], [19, 20]), ([19], [19]), ([22, 19], [19, 22]), ([23, 19], [19, 23]), ([24, 19], [19, 24]), ([21, 25, 19], [19, 21, 25]), ([19, 26], [19, 26]), ([27, 19], [27]), ([28], [28]), ([29, 28], [28, 29]), ([30, 28, 28], [28, 30]), ([28, 31], [28, 31]), ([32, 31, 0, 1, 2, 3, 4, 5, 6, 7, 8, 9, 10, 11, 12, 13, 14, 15, 16, 17, 18, 19, 20, 21, 22, 23, 24, 25, 26, 27, 28, 29, 30, 31, 32], [32])])
def spec_HeadOk.B1 : List Nat := [0, 1, 3, 7, 15, 31, 63, 127, 255, 511, 255, 1279, 4095, 8191, 16383, 32767, 65535, 131071, 262143, 524287, 1048575, 2097151, 1048575, 5242879, 13631487, 30408703, 67108863, 134217727, 268435455, 536870911, 1073741823, 2147483647, 4294967295, 8589934591]
theorem spec_HeadOk.tab1 : rtab .any (opsOf Try.f233 1) = spec_HeadOk.T1 := by kernel_rfl
theorem spec_HeadOk.bits1 : waitsOk spec_HeadOk.T1.2 spec_HeadOk.B1 = true := by kernel_rfl
set_option maxHeartbeats 8000000 in
set_option maxRecDepth 100000 in
theorem spec_HeadOk.calls (k : Nat) (a0_0 : Int) (a0_1 : Int) (A0_2 : Option Addr) (c0_2 : Nat) (l0_2 : List Int) (A0_3 : Option Addr) (c0_3 : Nat) (l0_3 : List Int) (a1_0 : Int) (a1_1 : Bool) (a1_2 : Bool) (a1_3 : Bool) (a2_0 : Int) (a2_1 : Int) (a2_2 : Int) (r : Bool) (w : World) (hr0_2 : Kd.C (Kd.int .i64) w A0_2 l0_2.length l0_2) (hc0_2 : l0_2.length ≤ c0_2) (hr0_3 : Kd.C (Kd.int .i64) w A0_3 l0_3.length l0_3) (hc0_3 : l0_3.length ≤ c0_3) (h : spec_HeadOk.f k a0_0 a0_1 l0_2 l0_3 a1_0 a1_1 a1_2 a1_3 a2_0 a2_1 a2_2 = some r) :
  Calls Try.prog 233 #[.agg #[.int .i64 a0_0, .int .i64 a0_1, .slice A0_2 l0_2.length c0_2, .slice A0_3 l0_3.length c0_3], .agg #[.int .i64 a1_0, .bool a1_1, .bool a1_2, .bool a1_3], .agg #[.int .i64 a2_0, .int .i64 a2_1, .int .i64 a2_2]] w fun e w' => e = .returned (.bool r) ∧ Below w.heap.size w w' := by
 have hu33 := Try.underlying33; have hu35 := Try.underlying35; have hu135 := Try.underlying135; have HR0_2 := Aside0.mk hr0_2; have HC0_2 := Aside0.mk hc0_2; clear hr0_2 hc0_2; have HR0_3 := Aside0.mk hr0_3; have HC0_3 := Aside0.mk hc0_3; clear hr0_3 hc0_3; have HB := Aside0.mk (Below.refl w.heap.size w); have H : ((spec_ParOk.f a1_0 a1_1 a1_2 a1_3).bind fun t162 => (if t162 = true then (if a2_0 ≥ 0 then ((spec_TilesOf.f k a0_0 a0_1 l0_2 l0_3).bind fun t163 => (if a2_0 < t163 then (if a2_1 ≥ 0 then (if 0 ≤ (IntKind.u64.wrap (a0_1)) then (if a2_1 < (shl .i64 1 (IntKind.u64.wrap (a0_1))) then ((spec_l01In.f a2_2 0 40).bind fun t164 => (some t164)) else (some false)) else (none)) else (some false)) else (some false))) else (some false)) else (some false))) = some r := h; clear h; replace H := Option.bind_eq_some_iff.mp H; obtain ⟨t162, A40, H⟩ := H; try dsimp only at H
 have A4 := Aside0.mk A40; clear A40; by_cases c5 : t162 = true
 ·subst c5
  rw [if_pos rfl] at H; by_cases c6 : a2_0 ≥ 0
  ·rw [if_pos c6] at H
   have c6b0 : decide (0 ≤ a2_0) = true := decide_eq_true c6; clear c6; replace H := Option.bind_eq_some_iff.mp H; obtain ⟨t163, A70, H⟩ := H; try dsimp only at H
   have A7 := Aside0.mk A70; clear A70; by_cases c8 : a2_0 < t163
   ·rw [if_pos c8] at H
    have c8b0 : decide (a2_0 < t163) = true := decide_eq_true c8; clear c8; by_cases c9 : a2_1 ≥ 0
    ·rw [if_pos c9] at H
     have c9b0 : decide (0 ≤ a2_1) = true := decide_eq_true c9; clear c9; obtain ⟨ji10, hji10⟩ : ∃ j_ : Int, (IntKind.u64.wrap (a0_1)) = j_ := ⟨_, rfl⟩; (first | rw [hji10] at H | simp only [hji10] at H); (try rw [hji10] at A4); (try rw [hji10] at A7); by_cases c11 : 0 ≤ (ji10)
     ·rw [if_pos c11] at H
      have c11b0 := eq_true c11; have c11b1 : decide (0 ≤ (ji10)) = true := decide_eq_true c11; clear c11; obtain ⟨ji12, hji12⟩ : ∃ j_ : Int, (shl .i64 1 (ji10)) = j_ := ⟨_, rfl⟩; (first | rw [hji12] at H | simp only [hji12] at H); (try rw [hji12] at A4); (try rw [hji12] at A7); have hji12_ : (IntKind.i64.wrap (1 * 2 ^ min (ji10).toNat 64)) = ji12 := hji12; have hji12z : (ji10) ≤ 64 → (IntKind.i64.wrap (1 * 2 ^ (ji10).toNat)) = ji12 := shl_small hji12; have hji12u : (IntKind.i64.wrap (2 ^ min (ji10).toNat 64)) = ji12 := by have h_ := hji12_; rw [Int.one_mul] at h_; exact h_
      have hji12v : (ji10) ≤ 64 → (IntKind.i64.wrap (2 ^ (ji10).toNat)) = ji12 := fun hle_ => by have h_ := hji12z hle_; rw [Int.one_mul] at h_; exact h_
      have hji12y : (wrap64 (1 * 2 ^ min (ji10).toNat 64)) = ji12 := (i64_w _).symm.trans hji12_; have hji12x : (ji10) ≤ 64 → (wrap64 (1 * 2 ^ (ji10).toNat)) = ji12 := fun h_ => (i64_w _).symm.trans (hji12z h_)
      by_cases c13 : a2_1 < (ji12)
      ·rw [if_pos c13] at H
       have c13b0 : decide (a2_1 < (ji12)) = true := decide_eq_true c13; clear c13; replace H := Option.bind_eq_some_iff.mp H; obtain ⟨t164, A140, H⟩ := H; try dsimp only at H
       have A14 := Aside0.mk A140; clear A140; obtain rfl := Option.some.inj H; go_enter Try.func233, Try.ntmps233; try go_wp2_with (first | ((with_reducible refine gate_dst (N := 3) rfl ?_); refine bx_ (N := 3) (cs := #[.int .i64 a0_0, .int .i64 a0_1, .slice A0_2 l0_2.length c0_2, .slice A0_3 l0_3.length c0_3]) (t := 33) ?_; intro gb159 hg w15 hbox hb; have BK159 := Aside0.mk (hbox); have GW159 := gw_ hg hb_; have GE159 := gw_ hg hb_; replace HB := Aside0.mk (below_step hb_ hb); clear hb hbox hg) | ((with_reducible refine gate_dst (N := 4) rfl ?_); refine bx_ (N := 4) (cs := #[.int .i64 a1_0, .bool a1_1, .bool a1_2, .bool a1_3]) (t := 35) ?_; intro gb160 hg w16 hbox hb; have BK160 := Aside0.mk (hbox); have GW160 := gw_ hg hb_; have GE160 := gw_ hg hb_; replace HB := Aside0.mk (below_step hb_ hb); obtain ⟨NB159_160, NB160_159, BK159⟩ := nb_ hg hb BK159; clear hb hbox hg) | ((with_reducible refine gate_dst (N := 5) rfl ?_); refine bx_ (N := 5) (cs := #[.int .i64 a2_0, .int .i64 a2_1, .int .i64 a2_2]) (t := 135) ?_; intro gb161 hg w17 hbox hb; have BK161 := Aside0.mk (hbox); have GW161 := gw_ hg hb_; have GE161 := gw_ hg hb_; replace HB := Aside0.mk (below_step hb_ hb); obtain ⟨NB159_161, NB161_159, BK159⟩ := nb_ hg hb BK159; obtain ⟨NB160_161, NB161_160, BK160⟩ := nb_ hg hb BK160; clear hb hbox hg))
       replace BK159 := Aside0.mk (blk_drew BK159.out); replace BK160 := Aside0.mk (blk_drew BK160.out); replace BK161 := Aside0.mk (blk_drew BK161.out); replace HB := Aside0.mk (below_drew1 HB.out); refine start_ (n := 34) (S := fun w' => w'.cell? ⟨gb160, 0, none⟩ = some (.int .i64 a1_0) ∧ w'.cell? ⟨gb160, 1, none⟩ = some (.bool a1_1) ∧ w'.cell? ⟨gb160, 2, none⟩ = some (.bool a1_2) ∧ w'.cell? ⟨gb160, 3, none⟩ = some (.bool a1_3) ∧ w'.cell? ⟨gb161, 0, none⟩ = some (.int .i64 a2_0) ∧ w'.cell? ⟨gb161, 1, none⟩ = some (.int .i64 a2_1) ∧ w'.cell? ⟨gb161, 2, none⟩ = some (.int .i64 a2_2) ∧ w'.cell? ⟨gb159, 0, none⟩ = some (.int .i64 a0_0) ∧ w'.cell? ⟨gb159, 1, none⟩ = some (.int .i64 a0_1) ∧ w'.cell? ⟨gb159, 2, none⟩ = some (.slice A0_2 l0_2.length c0_2) ∧ w'.cell? ⟨gb159, 3, none⟩ = some (.slice A0_3 l0_3.length c0_3)) (ds := []) u34_0 (by kernel_rfl) rfl rfl ⟨(blk_cell BK160.out 0).trans rfl, (blk_cell BK160.out 1).trans rfl, (blk_cell BK160.out 2).trans rfl, (blk_cell BK160.out 3).trans rfl, (blk_cell BK161.out 0).trans rfl, (blk_cell BK161.out 1).trans rfl, (blk_cell BK161.out 2).trans rfl, (blk_cell BK159.out 0).trans rfl, (blk_cell BK159.out 1).trans rfl, (blk_cell BK159.out 2).trans rfl, (blk_cell BK159.out 3).trans rfl⟩ (fun hHeld => ?_); refine with_tabW spec_HeadOk.tab1 spec_HeadOk.bits1 (fun HT_ HW_ => ?_); generalize w17.drew = w18 at BK159 BK160 BK161 HB hHeld ⊢
       refine take_ (i := 0) (N := some 7) (v := ?_) (a' := ?_) u34_1 rfl rfl (take_ofW HT_.out HW_.out (by kernel_rfl)) (fun _ _ _ h => h) (Or.inl ⟨(by rfl), ?_⟩) hHeld ?_ ?_; rotate_left
       ·rintro w' ⟨s0, s1, s2, s3, s4, s5, s6, s7, s8, s9, s10⟩
        go_simp; with_reducible rfl
       rotate_left
       ·simp only [Act.put, List.setIfInBounds_toArray, List.set_cons_zero, List.set_cons_succ, i64_w, i32_w]
        rfl
       refine one_ (i := 1) (N := some 8) u34_2 rfl rfl (one_of HT_.out (by kernel_rfl)) (by decide) (fun K hK => ?_); refine goes_ Try.func87 (by kernel_rfl) rfl #[.agg #[.int .i64 a1_0, .bool a1_1, .bool a1_2, .bool a1_3]] (by rfl) rfl rfl Bb_2 ?_; with_reducible refine (spec_ParOk.calls a1_0 a1_1 a1_2 a1_3 true _ A4.out).mono ?_
       rintro e w19 ⟨rfl, hb⟩; refine ⟨_, rfl, ?_⟩; replace BK159 := bb_ BK159 hb; replace BK160 := bb_ BK160 hb; replace BK161 := bb_ BK161 hb; replace HB := Aside0.mk (below_step hb_ hb); (try clear hb); (try clear hb2); (try clear hk); (try clear hi); refine hK.out _ _ Bb_0 (fun hHeld => ?_); clear hK K; refine no_ ?_; refine pu_ HT_.out 2 (some 9) u34_3 ?_; refine pu_ HT_.out 3 (some 10) u34_4 ?_; refine take_ (i := 4) (N := some 11) (v := ?_) (a' := ?_) u34_5 rfl rfl (take_ofW HT_.out HW_.out (by kernel_rfl)) (fun _ _ _ h => h) (Or.inl ⟨(by rfl), ?_⟩) hHeld ?_ ?_; rotate_left
       ·rintro w' ⟨s0, s1, s2, s3, s4, s5, s6, s7, s8, s9, s10⟩
        go_simp; with_reducible rfl
       rotate_left
       ·simp only [Act.put, List.setIfInBounds_toArray, List.set_cons_zero, List.set_cons_succ, i64_w, i32_w]
        rfl
       refine pu_ HT_.out 5 (some 12) u34_6 ?_; refine pu_ HT_.out 6 (some 13) u34_7 ?_; refine pu_ HT_.out 7 (some 14) u34_8 ?_; refine pu_ HT_.out 8 (some 15) u34_9 ?_; refine take_ (i := 9) (N := some 16) (v := ?_) (a' := ?_) u34_10 rfl rfl (take_ofW HT_.out HW_.out (by kernel_rfl)) (fun _ _ _ h => h) (Or.inl ⟨(by rfl), ?_⟩) hHeld ?_ ?_; rotate_left
       ·rintro w' ⟨s0, s1, s2, s3, s4, s5, s6, s7, s8, s9, s10⟩
        go_simp; with_reducible rfl
       rotate_left
       ·simp only [Act.put, List.setIfInBounds_toArray, List.set_cons_zero, List.set_cons_succ, i64_w, i32_w]
        rfl
       refine take_ (i := 10) (N := some 17) (v := ?_) (a' := ?_) u34_11 rfl rfl (take_ofW HT_.out HW_.out (by kernel_rfl)) (fun _ _ _ h => h) (Or.inl ⟨(by rfl), ?_⟩) hHeld ?_ ?_; rotate_left
       ·rintro w' ⟨s0, s1, s2, s3, s4, s5, s6, s7, s8, s9, s10⟩
        go_simp; with_reducible rfl
       rotate_left
       ·simp only [Act.put, List.setIfInBounds_toArray, List.set_cons_zero, List.set_cons_succ, i64_w, i32_w]
        rfl
       refine one_ (i := 11) (N := some 18) u34_12 rfl rfl (one_of HT_.out (by kernel_rfl)) (by decide) (fun K hK => ?_); refine goes_ Try.func74 (by kernel_rfl) rfl #[.agg #[.int .i64 a0_0, .int .i64 a0_1, .slice A0_2 l0_2.length c0_2, .slice A0_3 l0_3.length c0_3]] (by rfl) rfl rfl Bb_2 ?_; with_reducible refine (spec_TilesOf.calls k a0_0 a0_1 _ _ l0_2 _ _ l0_3 t163 _ ?side1 ?side2 ?side3 ?side4 A7.out).mono ?_
       (case side1 => repeat (first | exact (Kd.C_below HR0_2.out HB.out) | (with_reducible refine Kd.C_alloc ?_ _) | (with_reducible refine Kd.C_drewN ?_ _) | (with_reducible refine Kd.C_drew ?_))); (case side2 => exact HC0_2.out); (case side3 => repeat (first | exact (Kd.C_below HR0_3.out HB.out) | (with_reducible refine Kd.C_alloc ?_ _) | (with_reducible refine Kd.C_drewN ?_ _) | (with_reducible refine Kd.C_drew ?_))); (case side4 => exact HC0_3.out); rintro e w20 ⟨rfl, hb⟩; refine ⟨_, rfl, ?_⟩; replace BK159 := bb_ BK159 hb; replace BK160 := bb_ BK160 hb; replace BK161 := bb_ BK161 hb; replace HB := Aside0.mk (below_step hb_ hb); (try clear hb); (try clear hb2); (try clear hk); (try clear hi); refine hK.out _ _ Bb_0 (fun hHeld => ?_); clear hK K; refine no_ ?_; refine pu_ HT_.out 12 (some 19) u34_13 ?_; refine pu_ HT_.out 13 (some 20) u34_14 ?_; refine pu_ HT_.out 14 (some 21) u34_15 ?_; refine pu_ HT_.out 15 (some 22) u34_16 ?_; refine take_ (i := 16) (N := some 23) (v := ?_) (a' := ?_) u34_17 rfl rfl (take_ofW HT_.out HW_.out (by kernel_rfl)) (fun _ _ _ h => h) (Or.inl ⟨(by rfl), ?_⟩) hHeld ?_ ?_; rotate_left
       ·rintro w' ⟨s0, s1, s2, s3, s4, s5, s6, s7, s8, s9, s10⟩
        go_simp; with_reducible rfl
       rotate_left
       ·simp only [Act.put, List.setIfInBounds_toArray, List.set_cons_zero, List.set_cons_succ, i64_w, i32_w]
        rfl
       refine pu_ HT_.out 17 (some 24) u34_18 ?_; refine pu_ HT_.out 18 (some 25) u34_19 ?_; refine pu_ HT_.out 19 (some 26) u34_20 ?_; refine pu_ HT_.out 20 (some 27) u34_21 ?_; refine pu_ HT_.out 22 (some 29) u34_3ffffe800x ?_; refine take_ (i := 21) (N := some 28) (v := ?_) (a' := ?_) u34_23 rfl rfl (take_ofW HT_.out HW_.out (by kernel_rfl)) (fun _ _ _ h => h) (Or.inl ⟨(by rfl), ?_⟩) hHeld ?_ ?_; rotate_left
       ·rintro w' ⟨s0, s1, s2, s3, s4, s5, s6, s7, s8, s9, s10⟩
        go_simp; with_reducible rfl
       rotate_left
       ·simp only [Act.put, List.setIfInBounds_toArray, List.set_cons_zero, List.set_cons_succ, i64_w, i32_w]
        rfl
       refine take_ (i := 23) (N := some 30) (v := ?_) (a' := ?_) u34_24 rfl rfl (take_ofW HT_.out HW_.out (by kernel_rfl)) (fun _ _ _ h => h) (Or.inl ⟨(by rfl), ?_⟩) hHeld ?_ ?_; rotate_left
       ·rintro w' ⟨s0, s1, s2, s3, s4, s5, s6, s7, s8, s9, s10⟩
        go_simp; with_reducible rfl
       rotate_left
       ·simp only [Act.put, List.setIfInBounds_toArray, List.set_cons_zero, List.set_cons_succ, i64_w, i32_w]
        rfl
       refine pu_ HT_.out 24 (some 31) u34_25 ?_; refine pu_ HT_.out 25 (some 32) u34_26 ?_; refine pu_ HT_.out 26 (some 33) u34_27 ?_; refine pu_ HT_.out 27 (some 34) u34_28 ?_; refine pu_ HT_.out 28 (some 35) u34_29 ?_; refine pu_ HT_.out 29 (some 36) u34_30 ?_; refine take_ (i := 30) (N := some 37) (v := ?_) (a' := ?_) u34_31 rfl rfl (take_ofW HT_.out HW_.out (by kernel_rfl)) (fun _ _ _ h => h) (Or.inl ⟨(by rfl), ?_⟩) hHeld ?_ ?_; rotate_left
       ·rintro w' ⟨s0, s1, s2, s3, s4, s5, s6, s7, s8, s9, s10⟩
        go_simp; with_reducible rfl
       rotate_left
       ·simp only [Act.put, List.setIfInBounds_toArray, List.set_cons_zero, List.set_cons_succ, i64_w, i32_w]
        rfl
       refine one_ (i := 31) (N := some 38) u34_32 rfl rfl (one_of HT_.out (by kernel_rfl)) (by decide) (fun K hK => ?_); refine goes_ Try.func107 (by kernel_rfl) rfl #[.int .i64 a2_2, .int .i64 0, .int .i64 40] (by rfl) rfl rfl Bb_2 ?_; with_reducible refine (spec_l01In.calls a2_2 0 40 t164 _ A14.out).mono ?_
       rintro e w' ⟨rfl, ⟨nd, rfl⟩⟩; refine ⟨_, rfl, ?_⟩; refine hK.out _ _ Bb_0 (fun hHeld => ?_); clear hK K; refine no_ ?_; refine pu_ HT_.out 32 (some 39) u34_33 ?_; refine pu_ HT_.out 33 (some 6) u34_34 ?_; refine done_ (done_of HT_.out (by kernel_rfl)) ?_; try go_wp2
       go_ret; exact ⟨Bb_13, hb_⟩
      ·rw [if_neg c13] at H
       have c13b0 : decide (a2_1 < (ji12)) = false := decide_eq_false c13; clear c13; obtain rfl := Option.some.inj H; go_enter Try.func233, Try.ntmps233; try go_wp2_with (first | ((with_reducible refine gate_dst (N := 3) rfl ?_); refine bx_ (N := 3) (cs := #[.int .i64 a0_0, .int .i64 a0_1, .slice A0_2 l0_2.length c0_2, .slice A0_3 l0_3.length c0_3]) (t := 33) ?_; intro gb159 hg w21 hbox hb; have BK159 := Aside0.mk (hbox); have GW159 := gw_ hg hb_; have GE159 := gw_ hg hb_; replace HB := Aside0.mk (below_step hb_ hb); clear hb hbox hg) | ((with_reducible refine gate_dst (N := 4) rfl ?_); refine bx_ (N := 4) (cs := #[.int .i64 a1_0, .bool a1_1, .bool a1_2, .bool a1_3]) (t := 35) ?_; intro gb160 hg w22 hbox hb; have BK160 := Aside0.mk (hbox); have GW160 := gw_ hg hb_; have GE160 := gw_ hg hb_; replace HB := Aside0.mk (below_step hb_ hb); obtain ⟨NB159_160, NB160_159, BK159⟩ := nb_ hg hb BK159; clear hb hbox hg) | ((with_reducible refine gate_dst (N := 5) rfl ?_); refine bx_ (N := 5) (cs := #[.int .i64 a2_0, .int .i64 a2_1, .int .i64 a2_2]) (t := 135) ?_; intro gb161 hg w23 hbox hb; have BK161 := Aside0.mk (hbox); have GW161 := gw_ hg hb_; have GE161 := gw_ hg hb_; replace HB := Aside0.mk (below_step hb_ hb); obtain ⟨NB159_161, NB161_159, BK159⟩ := nb_ hg hb BK159; obtain ⟨NB160_161, NB161_160, BK160⟩ := nb_ hg hb BK160; clear hb hbox hg))
       replace BK159 := Aside0.mk (blk_drew BK159.out); replace BK160 := Aside0.mk (blk_drew BK160.out); replace BK161 := Aside0.mk (blk_drew BK161.out); replace HB := Aside0.mk (below_drew1 HB.out); refine start_ (n := 34) (S := fun w' => w'.cell? ⟨gb160, 0, none⟩ = some (.int .i64 a1_0) ∧ w'.cell? ⟨gb160, 1, none⟩ = some (.bool a1_1) ∧ w'.cell? ⟨gb160, 2, none⟩ = some (.bool a1_2) ∧ w'.cell? ⟨gb160, 3, none⟩ = some (.bool a1_3) ∧ w'.cell? ⟨gb161, 0, none⟩ = some (.int .i64 a2_0) ∧ w'.cell? ⟨gb161, 1, none⟩ = some (.int .i64 a2_1) ∧ w'.cell? ⟨gb161, 2, none⟩ = some (.int .i64 a2_2) ∧ w'.cell? ⟨gb159, 0, none⟩ = some (.int .i64 a0_0) ∧ w'.cell? ⟨gb159, 1, none⟩ = some (.int .i64 a0_1) ∧ w'.cell? ⟨gb159, 2, none⟩ = some (.slice A0_2 l0_2.length c0_2) ∧ w'.cell? ⟨gb159, 3, none⟩ = some (.slice A0_3 l0_3.length c0_3)) (ds := []) u34_0 (by kernel_rfl) rfl rfl ⟨(blk_cell BK160.out 0).trans rfl, (blk_cell BK160.out 1).trans rfl, (blk_cell BK160.out 2).trans rfl, (blk_cell BK160.out 3).trans rfl, (blk_cell BK161.out 0).trans rfl, (blk_cell BK161.out 1).trans rfl, (blk_cell BK161.out 2).trans rfl, (blk_cell BK159.out 0).trans rfl, (blk_cell BK159.out 1).trans rfl, (blk_cell BK159.out 2).trans rfl, (blk_cell BK159.out 3).trans rfl⟩ (fun hHeld => ?_); refine with_tabW spec_HeadOk.tab1 spec_HeadOk.bits1 (fun HT_ HW_ => ?_); generalize w23.drew = w24 at BK159 BK160 BK161 HB hHeld ⊢
       refine take_ (i := 0) (N := some 7) (v := ?_) (a' := ?_) u34_1 rfl rfl (take_ofW HT_.out HW_.out (by kernel_rfl)) (fun _ _ _ h => h) (Or.inl ⟨(by rfl), ?_⟩) hHeld ?_ ?_; rotate_left
       ·rintro w' ⟨s0, s1, s2, s3, s4, s5, s6, s7, s8, s9, s10⟩
        go_simp; with_reducible rfl
       rotate_left
       ·simp only [Act.put, List.setIfInBounds_toArray, List.set_cons_zero, List.set_cons_succ, i64_w, i32_w]
        rfl
       refine one_ (i := 1) (N := some 8) u34_2 rfl rfl (one_of HT_.out (by kernel_rfl)) (by decide) (fun K hK => ?_); refine goes_ Try.func87 (by kernel_rfl) rfl #[.agg #[.int .i64 a1_0, .bool a1_1, .bool a1_2, .bool a1_3]] (by rfl) rfl rfl Bb_2 ?_; with_reducible refine (spec_ParOk.calls a1_0 a1_1 a1_2 a1_3 true _ A4.out).mono ?_
       rintro e w25 ⟨rfl, hb⟩; refine ⟨_, rfl, ?_⟩; replace BK159 := bb_ BK159 hb; replace BK160 := bb_ BK160 hb; replace BK161 := bb_ BK161 hb; replace HB := Aside0.mk (below_step hb_ hb); (try clear hb); (try clear hb2); (try clear hk); (try clear hi); refine hK.out _ _ Bb_0 (fun hHeld => ?_); clear hK K; refine no_ ?_; refine pu_ HT_.out 2 (some 9) u34_3 ?_; refine pu_ HT_.out 3 (some 10) u34_4 ?_; refine take_ (i := 4) (N := some 11) (v := ?_) (a' := ?_) u34_5 rfl rfl (take_ofW HT_.out HW_.out (by kernel_rfl)) (fun _ _ _ h => h) (Or.inl ⟨(by rfl), ?_⟩) hHeld ?_ ?_; rotate_left
       ·rintro w' ⟨s0, s1, s2, s3, s4, s5, s6, s7, s8, s9, s10⟩
        go_simp; with_reducible rfl
       rotate_left
       ·simp only [Act.put, List.setIfInBounds_toArray, List.set_cons_zero, List.set_cons_succ, i64_w, i32_w]
        rfl
       refine pu_ HT_.out 5 (some 12) u34_6 ?_; refine pu_ HT_.out 6 (some 13) u34_7 ?_; refine pu_ HT_.out 7 (some 14) u34_8 ?_; refine pu_ HT_.out 8 (some 15) u34_9 ?_; refine take_ (i := 9) (N := some 16) (v := ?_) (a' := ?_) u34_10 rfl rfl (take_ofW HT_.out HW_.out (by kernel_rfl)) (fun _ _ _ h => h) (Or.inl ⟨(by rfl), ?_⟩) hHeld ?_ ?_; rotate_left
       ·rintro w' ⟨s0, s1, s2, s3, s4, s5, s6, s7, s8, s9, s10⟩
        go_simp; with_reducible rfl
       rotate_left
       ·simp only [Act.put, List.setIfInBounds_toArray, List.set_cons_zero, List.set_cons_succ, i64_w, i32_w]
        rfl
       refine take_ (i := 10) (N := some 17) (v := ?_) (a' := ?_) u34_11 rfl rfl (take_ofW HT_.out HW_.out (by kernel_rfl)) (fun _ _ _ h => h) (Or.inl ⟨(by rfl), ?_⟩) hHeld ?_ ?_; rotate_left
       ·rintro w' ⟨s0, s1, s2, s3, s4, s5, s6, s7, s8, s9, s10⟩
        go_simp; with_reducible rfl
       rotate_left
       ·simp only [Act.put, List.setIfInBounds_toArray, List.set_cons_zero, List.set_cons_succ, i64_w, i32_w]
        rfl
       refine one_ (i := 11) (N := some 18) u34_12 rfl rfl (one_of HT_.out (by kernel_rfl)) (by decide) (fun K hK => ?_); refine goes_ Try.func74 (by kernel_rfl) rfl #[.agg #[.int .i64 a0_0, .int .i64 a0_1, .slice A0_2 l0_2.length c0_2, .slice A0_3 l0_3.length c0_3]] (by rfl) rfl rfl Bb_2 ?_; with_reducible refine (spec_TilesOf.calls k a0_0 a0_1 _ _ l0_2 _ _ l0_3 t163 _ ?side1 ?side2 ?side3 ?side4 A7.out).mono ?_
       (case side1 => repeat (first | exact (Kd.C_below HR0_2.out HB.out) | (with_reducible refine Kd.C_alloc ?_ _) | (with_reducible refine Kd.C_drewN ?_ _) | (with_reducible refine Kd.C_drew ?_))); (case side2 => exact HC0_2.out); (case side3 => repeat (first | exact (Kd.C_below HR0_3.out HB.out) | (with_reducible refine Kd.C_alloc ?_ _) | (with_reducible refine Kd.C_drewN ?_ _) | (with_reducible refine Kd.C_drew ?_))); (case side4 => exact HC0_3.out); rintro e w26 ⟨rfl, hb⟩; refine ⟨_, rfl, ?_⟩; replace BK159 := bb_ BK159 hb; replace BK160 := bb_ BK160 hb; replace BK161 := bb_ BK161 hb; replace HB := Aside0.mk (below_step hb_ hb); (try clear hb); (try clear hb2); (try clear hk); (try clear hi); refine hK.out _ _ Bb_0 (fun hHeld => ?_); clear hK K; refine no_ ?_; refine pu_ HT_.out 12 (some 19) u34_13 ?_; refine pu_ HT_.out 13 (some 20) u34_14 ?_; refine pu_ HT_.out 14 (some 21) u34_15 ?_; refine pu_ HT_.out 15 (some 22) u34_16 ?_; refine take_ (i := 16) (N := some 23) (v := ?_) (a' := ?_) u34_17 rfl rfl (take_ofW HT_.out HW_.out (by kernel_rfl)) (fun _ _ _ h => h) (Or.inl ⟨(by rfl), ?_⟩) hHeld ?_ ?_; rotate_left
       ·rintro w' ⟨s0, s1, s2, s3, s4, s5, s6, s7, s8, s9, s10⟩
        go_simp; with_reducible rfl
       rotate_left
       ·simp only [Act.put, List.setIfInBounds_toArray, List.set_cons_zero, List.set_cons_succ, i64_w, i32_w]
        rfl
       refine pu_ HT_.out 17 (some 24) u34_18 ?_; refine pu_ HT_.out 18 (some 25) u34_19 ?_; refine pu_ HT_.out 19 (some 26) u34_20 ?_; refine pu_ HT_.out 20 (some 27) u34_21 ?_; refine pu_ HT_.out 22 (some 29) u34_3ffffe800x ?_; refine take_ (i := 21) (N := some 28) (v := ?_) (a' := ?_) u34_23 rfl rfl (take_ofW HT_.out HW_.out (by kernel_rfl)) (fun _ _ _ h => h) (Or.inl ⟨(by rfl), ?_⟩) hHeld ?_ ?_; rotate_left
       ·rintro w' ⟨s0, s1, s2, s3, s4, s5, s6, s7, s8, s9, s10⟩
        go_simp; with_reducible rfl
       rotate_left
       ·simp only [Act.put, List.setIfInBounds_toArray, List.set_cons_zero, List.set_cons_succ, i64_w, i32_w]
        rfl
       refine take_ (i := 23) (N := some 30) (v := ?_) (a' := ?_) u34_24 rfl rfl (take_ofW HT_.out HW_.out (by kernel_rfl)) (fun _ _ _ h => h) (Or.inl ⟨(by rfl), ?_⟩) hHeld ?_ ?_; rotate_left
       ·rintro w' ⟨s0, s1, s2, s3, s4, s5, s6, s7, s8, s9, s10⟩
        go_simp; with_reducible rfl
       rotate_left
       ·simp only [Act.put, List.setIfInBounds_toArray, List.set_cons_zero, List.set_cons_succ, i64_w, i32_w]
        rfl
       refine pu_ HT_.out 24 (some 31) u34_25 ?_; refine pu_ HT_.out 25 (some 32) u34_26 ?_; refine pu_ HT_.out 26 (some 33) u34_27 ?_; refine pu_ HT_.out 27 (some 34) u34_28 ?_; refine pu_ HT_.out 28 (some 35) u34_29 ?_; refine pz_ HT_.out 29 (some 36) u34_30 ?_; refine pz_ HT_.out 30 (some 37) u34_31 ?_; refine pz_ HT_.out 31 (some 38) u34_32 ?_; refine pu_ HT_.out 32 (some 39) u34_33 ?_; refine pu_ HT_.out 33 (some 6) u34_34 ?_; refine done_ (done_of HT_.out (by kernel_rfl)) ?_; try go_wp2
       go_ret; exact ⟨Bb_13, hb_⟩
     ·rw [if_neg c11] at H
      exact absurd H (by simp)
    ·rw [if_neg c9] at H
     have c9b0 : decide (0 ≤ a2_1) = false := decide_eq_false c9; clear c9; obtain rfl := Option.some.inj H; go_enter Try.func233, Try.ntmps233; try go_wp2_with (first | ((with_reducible refine gate_dst (N := 3) rfl ?_); refine bx_ (N := 3) (cs := #[.int .i64 a0_0, .int .i64 a0_1, .slice A0_2 l0_2.length c0_2, .slice A0_3 l0_3.length c0_3]) (t := 33) ?_; intro gb159 hg w27 hbox hb; have BK159 := Aside0.mk (hbox); have GW159 := gw_ hg hb_; have GE159 := gw_ hg hb_; replace HB := Aside0.mk (below_step hb_ hb); clear hb hbox hg) | ((with_reducible refine gate_dst (N := 4) rfl ?_); refine bx_ (N := 4) (cs := #[.int .i64 a1_0, .bool a1_1, .bool a1_2, .bool a1_3]) (t := 35) ?_; intro gb160 hg w28 hbox hb; have BK160 := Aside0.mk (hbox); have GW160 := gw_ hg hb_; have GE160 := gw_ hg hb_; replace HB := Aside0.mk (below_step hb_ hb); obtain ⟨NB159_160, NB160_159, BK159⟩ := nb_ hg hb BK159; clear hb hbox hg) | ((with_reducible refine gate_dst (N := 5) rfl ?_); refine bx_ (N := 5) (cs := #[.int .i64 a2_0, .int .i64 a2_1, .int .i64 a2_2]) (t := 135) ?_; intro gb161 hg w29 hbox hb; have BK161 := Aside0.mk (hbox); have GW161 := gw_ hg hb_; have GE161 := gw_ hg hb_; replace HB := Aside0.mk (below_step hb_ hb); obtain ⟨NB159_161, NB161_159, BK159⟩ := nb_ hg hb BK159; obtain ⟨NB160_161, NB161_160, BK160⟩ := nb_ hg hb BK160; clear hb hbox hg))
     replace BK159 := Aside0.mk (blk_drew BK159.out); replace BK160 := Aside0.mk (blk_drew BK160.out); replace BK161 := Aside0.mk (blk_drew BK161.out); replace HB := Aside0.mk (below_drew1 HB.out); refine start_ (n := 34) (S := fun w' => w'.cell? ⟨gb160, 0, none⟩ = some (.int .i64 a1_0) ∧ w'.cell? ⟨gb160, 1, none⟩ = some (.bool a1_1) ∧ w'.cell? ⟨gb160, 2, none⟩ = some (.bool a1_2) ∧ w'.cell? ⟨gb160, 3, none⟩ = some (.bool a1_3) ∧ w'.cell? ⟨gb161, 0, none⟩ = some (.int .i64 a2_0) ∧ w'.cell? ⟨gb161, 1, none⟩ = some (.int .i64 a2_1) ∧ w'.cell? ⟨gb161, 2, none⟩ = some (.int .i64 a2_2) ∧ w'.cell? ⟨gb159, 0, none⟩ = some (.int .i64 a0_0) ∧ w'.cell? ⟨gb159, 1, none⟩ = some (.int .i64 a0_1) ∧ w'.cell? ⟨gb159, 2, none⟩ = some (.slice A0_2 l0_2.length c0_2) ∧ w'.cell? ⟨gb159, 3, none⟩ = some (.slice A0_3 l0_3.length c0_3)) (ds := []) u34_0 (by kernel_rfl) rfl rfl ⟨(blk_cell BK160.out 0).trans rfl, (blk_cell BK160.out 1).trans rfl, (blk_cell BK160.out 2).trans rfl, (blk_cell BK160.out 3).trans rfl, (blk_cell BK161.out 0).trans rfl, (blk_cell BK161.out 1).trans rfl, (blk_cell BK161.out 2).trans rfl, (blk_cell BK159.out 0).trans rfl, (blk_cell BK159.out 1).trans rfl, (blk_cell BK159.out 2).trans rfl, (blk_cell BK159.out 3).trans rfl⟩ (fun hHeld => ?_); refine with_tabW spec_HeadOk.tab1 spec_HeadOk.bits1 (fun HT_ HW_ => ?_); generalize w29.drew = w30 at BK159 BK160 BK161 HB hHeld ⊢
     refine take_ (i := 0) (N := some 7) (v := ?_) (a' := ?_) u34_1 rfl rfl (take_ofW HT_.out HW_.out (by kernel_rfl)) (fun _ _ _ h => h) (Or.inl ⟨(by rfl), ?_⟩) hHeld ?_ ?_; rotate_left
     ·rintro w' ⟨s0, s1, s2, s3, s4, s5, s6, s7, s8, s9, s10⟩
      go_simp; with_reducible rfl
     rotate_left
     ·simp only [Act.put, List.setIfInBounds_toArray, List.set_cons_zero, List.set_cons_succ, i64_w, i32_w]
      rfl
     refine one_ (i := 1) (N := some 8) u34_2 rfl rfl (one_of HT_.out (by kernel_rfl)) (by decide) (fun K hK => ?_); refine goes_ Try.func87 (by kernel_rfl) rfl #[.agg #[.int .i64 a1_0, .bool a1_1, .bool a1_2, .bool a1_3]] (by rfl) rfl rfl Bb_2 ?_; with_reducible refine (spec_ParOk.calls a1_0 a1_1 a1_2 a1_3 true _ A4.out).mono ?_
     rintro e w31 ⟨rfl, hb⟩; refine ⟨_, rfl, ?_⟩; replace BK159 := bb_ BK159 hb; replace BK160 := bb_ BK160 hb; replace BK161 := bb_ BK161 hb; replace HB := Aside0.mk (below_step hb_ hb); (try clear hb); (try clear hb2); (try clear hk); (try clear hi); refine hK.out _ _ Bb_0 (fun hHeld => ?_); clear hK K; refine no_ ?_; refine pu_ HT_.out 2 (some 9) u34_3 ?_; refine pu_ HT_.out 3 (some 10) u34_4 ?_; refine take_ (i := 4) (N := some 11) (v := ?_) (a' := ?_) u34_5 rfl rfl (take_ofW HT_.out HW_.out (by kernel_rfl)) (fun _ _ _ h => h) (Or.inl ⟨(by rfl), ?_⟩) hHeld ?_ ?_; rotate_left
     ·rintro w' ⟨s0, s1, s2, s3, s4, s5, s6, s7, s8, s9, s10⟩
      go_simp; with_reducible rfl
     rotate_left
     ·simp only [Act.put, List.setIfInBounds_toArray, List.set_cons_zero, List.set_cons_succ, i64_w, i32_w]
      rfl
     refine pu_ HT_.out 5 (some 12) u34_6 ?_; refine pu_ HT_.out 6 (some 13) u34_7 ?_; refine pu_ HT_.out 7 (some 14) u34_8 ?_; refine pu_ HT_.out 8 (some 15) u34_9 ?_; refine take_ (i := 9) (N := some 16) (v := ?_) (a' := ?_) u34_10 rfl rfl (take_ofW HT_.out HW_.out (by kernel_rfl)) (fun _ _ _ h => h) (Or.inl ⟨(by rfl), ?_⟩) hHeld ?_ ?_; rotate_left
     ·rintro w' ⟨s0, s1, s2, s3, s4, s5, s6, s7, s8, s9, s10⟩
      go_simp; with_reducible rfl
     rotate_left
     ·simp only [Act.put, List.setIfInBounds_toArray, List.set_cons_zero, List.set_cons_succ, i64_w, i32_w]
      rfl
     refine take_ (i := 10) (N := some 17) (v := ?_) (a' := ?_) u34_11 rfl rfl (take_ofW HT_.out HW_.out (by kernel_rfl)) (fun _ _ _ h => h) (Or.inl ⟨(by rfl), ?_⟩) hHeld ?_ ?_; rotate_left
     ·rintro w' ⟨s0, s1, s2, s3, s4, s5, s6, s7, s8, s9, s10⟩
      go_simp; with_reducible rfl
     rotate_left
     ·simp only [Act.put, List.setIfInBounds_toArray, List.set_cons_zero, List.set_cons_succ, i64_w, i32_w]
      rfl
     refine one_ (i := 11) (N := some 18) u34_12 rfl rfl (one_of HT_.out (by kernel_rfl)) (by decide) (fun K hK => ?_); refine goes_ Try.func74 (by kernel_rfl) rfl #[.agg #[.int .i64 a0_0, .int .i64 a0_1, .slice A0_2 l0_2.length c0_2, .slice A0_3 l0_3.length c0_3]] (by rfl) rfl rfl Bb_2 ?_; with_reducible refine (spec_TilesOf.calls k a0_0 a0_1 _ _ l0_2 _ _ l0_3 t163 _ ?side1 ?side2 ?side3 ?side4 A7.out).mono ?_
     (case side1 => repeat (first | exact (Kd.C_below HR0_2.out HB.out) | (with_reducible refine Kd.C_alloc ?_ _) | (with_reducible refine Kd.C_drewN ?_ _) | (with_reducible refine Kd.C_drew ?_))); (case side2 => exact HC0_2.out); (case side3 => repeat (first | exact (Kd.C_below HR0_3.out HB.out) | (with_reducible refine Kd.C_alloc ?_ _) | (with_reducible refine Kd.C_drewN ?_ _) | (with_reducible refine Kd.C_drew ?_))); (case side4 => exact HC0_3.out); rintro e w32 ⟨rfl, hb⟩; refine ⟨_, rfl, ?_⟩; replace BK159 := bb_ BK159 hb; replace BK160 := bb_ BK160 hb; replace BK161 := bb_ BK161 hb; replace HB := Aside0.mk (below_step hb_ hb); (try clear hb); (try clear hb2); (try clear hk); (try clear hi); refine hK.out _ _ Bb_0 (fun hHeld => ?_); clear hK K; refine no_ ?_; refine pu_ HT_.out 12 (some 19) u34_13 ?_; refine pu_ HT_.out 13 (some 20) u34_14 ?_; refine pu_ HT_.out 14 (some 21) u34_15 ?_; refine pu_ HT_.out 15 (some 22) u34_16 ?_; refine take_ (i := 16) (N := some 23) (v := ?_) (a' := ?_) u34_17 rfl rfl (take_ofW HT_.out HW_.out (by kernel_rfl)) (fun _ _ _ h => h) (Or.inl ⟨(by rfl), ?_⟩) hHeld ?_ ?_; rotate_left
     ·rintro w' ⟨s0, s1, s2, s3, s4, s5, s6, s7, s8, s9, s10⟩
      go_simp; with_reducible rfl
     rotate_left
     ·simp only [Act.put, List.setIfInBounds_toArray, List.set_cons_zero, List.set_cons_succ, i64_w, i32_w]
      rfl
     refine pu_ HT_.out 17 (some 24) u34_18 ?_; refine pu_ HT_.out 18 (some 25) u34_19 ?_; refine pu_ HT_.out 19 (some 26) u34_20 ?_; refine pz_ HT_.out 20 (some 27) u34_21 ?_; refine pz_ HT_.out 21 (some 28) u34_22 ?_; refine pz_ HT_.out 22 (some 29) u34_23 ?_; refine pz_ HT_.out 23 (some 30) u34_24 ?_; refine pz_ HT_.out 24 (some 31) u34_25 ?_; refine pz_ HT_.out 25 (some 32) u34_26 ?_; refine pz_ HT_.out 26 (some 33) u34_27 ?_; refine pu_ HT_.out 27 (some 34) u34_28 ?_; refine pu_ HT_.out 28 (some 35) u34_29 ?_; refine pz_ HT_.out 29 (some 36) u34_30 ?_; refine pz_ HT_.out 30 (some 37) u34_31 ?_; refine pz_ HT_.out 31 (some 38) u34_32 ?_; refine pu_ HT_.out 32 (some 39) u34_33 ?_; refine pu_ HT_.out 33 (some 6) u34_34 ?_; refine done_ (done_of HT_.out (by kernel_rfl)) ?_; try go_wp2
     go_ret; exact ⟨Bb_4, hb_⟩
   ·rw [if_neg c8] at H
    have c8b0 : decide (a2_0 < t163) = false := decide_eq_false c8; clear c8; obtain rfl := Option.some.inj H; go_enter Try.func233, Try.ntmps233; try go_wp2_with (first | ((with_reducible refine gate_dst (N := 3) rfl ?_); refine bx_ (N := 3) (cs := #[.int .i64 a0_0, .int .i64 a0_1, .slice A0_2 l0_2.length c0_2, .slice A0_3 l0_3.length c0_3]) (t := 33) ?_; intro gb159 hg w33 hbox hb; have BK159 := Aside0.mk (hbox); have GW159 := gw_ hg hb_; have GE159 := gw_ hg hb_; replace HB := Aside0.mk (below_step hb_ hb); clear hb hbox hg) | ((with_reducible refine gate_dst (N := 4) rfl ?_); refine bx_ (N := 4) (cs := #[.int .i64 a1_0, .bool a1_1, .bool a1_2, .bool a1_3]) (t := 35) ?_; intro gb160 hg w34 hbox hb; have BK160 := Aside0.mk (hbox); have GW160 := gw_ hg hb_; have GE160 := gw_ hg hb_; replace HB := Aside0.mk (below_step hb_ hb); obtain ⟨NB159_160, NB160_159, BK159⟩ := nb_ hg hb BK159; clear hb hbox hg) | ((with_reducible refine gate_dst (N := 5) rfl ?_); refine bx_ (N := 5) (cs := #[.int .i64 a2_0, .int .i64 a2_1, .int .i64 a2_2]) (t := 135) ?_; intro gb161 hg w35 hbox hb; have BK161 := Aside0.mk (hbox); have GW161 := gw_ hg hb_; have GE161 := gw_ hg hb_; replace HB := Aside0.mk (below_step hb_ hb); obtain ⟨NB159_161, NB161_159, BK159⟩ := nb_ hg hb BK159; obtain ⟨NB160_161, NB161_160, BK160⟩ := nb_ hg hb BK160; clear hb hbox hg))
    replace BK159 := Aside0.mk (blk_drew BK159.out); replace BK160 := Aside0.mk (blk_drew BK160.out); replace BK161 := Aside0.mk (blk_drew BK161.out); replace HB := Aside0.mk (below_drew1 HB.out); refine start_ (n := 34) (S := fun w' => w'.cell? ⟨gb160, 0, none⟩ = some (.int .i64 a1_0) ∧ w'.cell? ⟨gb160, 1, none⟩ = some (.bool a1_1) ∧ w'.cell? ⟨gb160, 2, none⟩ = some (.bool a1_2) ∧ w'.cell? ⟨gb160, 3, none⟩ = some (.bool a1_3) ∧ w'.cell? ⟨gb161, 0, none⟩ = some (.int .i64 a2_0) ∧ w'.cell? ⟨gb161, 1, none⟩ = some (.int .i64 a2_1) ∧ w'.cell? ⟨gb161, 2, none⟩ = some (.int .i64 a2_2) ∧ w'.cell? ⟨gb159, 0, none⟩ = some (.int .i64 a0_0) ∧ w'.cell? ⟨gb159, 1, none⟩ = some (.int .i64 a0_1) ∧ w'.cell? ⟨gb159, 2, none⟩ = some (.slice A0_2 l0_2.length c0_2) ∧ w'.cell? ⟨gb159, 3, none⟩ = some (.slice A0_3 l0_3.length c0_3)) (ds := []) u34_0 (by kernel_rfl) rfl rfl ⟨(blk_cell BK160.out 0).trans rfl, (blk_cell BK160.out 1).trans rfl, (blk_cell BK160.out 2).trans rfl, (blk_cell BK160.out 3).trans rfl, (blk_cell BK161.out 0).trans rfl, (blk_cell BK161.out 1).trans rfl, (blk_cell BK161.out 2).trans rfl, (blk_cell BK159.out 0).trans rfl, (blk_cell BK159.out 1).trans rfl, (blk_cell BK159.out 2).trans rfl, (blk_cell BK159.out 3).trans rfl⟩ (fun hHeld => ?_); refine with_tabW spec_HeadOk.tab1 spec_HeadOk.bits1 (fun HT_ HW_ => ?_); generalize w35.drew = w36 at BK159 BK160 BK161 HB hHeld ⊢
    refine take_ (i := 0) (N := some 7) (v := ?_) (a' := ?_) u34_1 rfl rfl (take_ofW HT_.out HW_.out (by kernel_rfl)) (fun _ _ _ h => h) (Or.inl ⟨(by rfl), ?_⟩) hHeld ?_ ?_; rotate_left
    ·rintro w' ⟨s0, s1, s2, s3, s4, s5, s6, s7, s8, s9, s10⟩
     go_simp; with_reducible rfl
    rotate_left
    ·simp only [Act.put, List.setIfInBounds_toArray, List.set_cons_zero, List.set_cons_succ, i64_w, i32_w]
     rfl
    refine one_ (i := 1) (N := some 8) u34_2 rfl rfl (one_of HT_.out (by kernel_rfl)) (by decide) (fun K hK => ?_); refine goes_ Try.func87 (by kernel_rfl) rfl #[.agg #[.int .i64 a1_0, .bool a1_1, .bool a1_2, .bool a1_3]] (by rfl) rfl rfl Bb_2 ?_; with_reducible refine (spec_ParOk.calls a1_0 a1_1 a1_2 a1_3 true _ A4.out).mono ?_
    rintro e w37 ⟨rfl, hb⟩; refine ⟨_, rfl, ?_⟩; replace BK159 := bb_ BK159 hb; replace BK160 := bb_ BK160 hb; replace BK161 := bb_ BK161 hb; replace HB := Aside0.mk (below_step hb_ hb); (try clear hb); (try clear hb2); (try clear hk); (try clear hi); refine hK.out _ _ Bb_0 (fun hHeld => ?_); clear hK K; refine no_ ?_; refine pu_ HT_.out 2 (some 9) u34_3 ?_; refine pu_ HT_.out 3 (some 10) u34_4 ?_; refine take_ (i := 4) (N := some 11) (v := ?_) (a' := ?_) u34_5 rfl rfl (take_ofW HT_.out HW_.out (by kernel_rfl)) (fun _ _ _ h => h) (Or.inl ⟨(by rfl), ?_⟩) hHeld ?_ ?_; rotate_left
    ·rintro w' ⟨s0, s1, s2, s3, s4, s5, s6, s7, s8, s9, s10⟩
     go_simp; with_reducible rfl
    rotate_left
    ·simp only [Act.put, List.setIfInBounds_toArray, List.set_cons_zero, List.set_cons_succ, i64_w, i32_w]
     rfl
    refine pu_ HT_.out 5 (some 12) u34_6 ?_; refine pu_ HT_.out 6 (some 13) u34_7 ?_; refine pu_ HT_.out 7 (some 14) u34_8 ?_; refine pu_ HT_.out 8 (some 15) u34_9 ?_; refine take_ (i := 9) (N := some 16) (v := ?_) (a' := ?_) u34_10 rfl rfl (take_ofW HT_.out HW_.out (by kernel_rfl)) (fun _ _ _ h => h) (Or.inl ⟨(by rfl), ?_⟩) hHeld ?_ ?_; rotate_left
    ·rintro w' ⟨s0, s1, s2, s3, s4, s5, s6, s7, s8, s9, s10⟩
     go_simp; with_reducible rfl
    rotate_left
    ·simp only [Act.put, List.setIfInBounds_toArray, List.set_cons_zero, List.set_cons_succ, i64_w, i32_w]
     rfl
    refine take_ (i := 10) (N := some 17) (v := ?_) (a' := ?_) u34_11 rfl rfl (take_ofW HT_.out HW_.out (by kernel_rfl)) (fun _ _ _ h => h) (Or.inl ⟨(by rfl), ?_⟩) hHeld ?_ ?_; rotate_left
    ·rintro w' ⟨s0, s1, s2, s3, s4, s5, s6, s7, s8, s9, s10⟩
     go_simp; with_reducible rfl
    rotate_left
    ·simp only [Act.put, List.setIfInBounds_toArray, List.set_cons_zero, List.set_cons_succ, i64_w, i32_w]
     rfl
    refine one_ (i := 11) (N := some 18) u34_12 rfl rfl (one_of HT_.out (by kernel_rfl)) (by decide) (fun K hK => ?_); refine goes_ Try.func74 (by kernel_rfl) rfl #[.agg #[.int .i64 a0_0, .int .i64 a0_1, .slice A0_2 l0_2.length c0_2, .slice A0_3 l0_3.length c0_3]] (by rfl) rfl rfl Bb_2 ?_; with_reducible refine (spec_TilesOf.calls k a0_0 a0_1 _ _ l0_2 _ _ l0_3 t163 _ ?side1 ?side2 ?side3 ?side4 A7.out).mono ?_
    (case side1 => repeat (first | exact (Kd.C_below HR0_2.out HB.out) | (with_reducible refine Kd.C_alloc ?_ _) | (with_reducible refine Kd.C_drewN ?_ _) | (with_reducible refine Kd.C_drew ?_))); (case side2 => exact HC0_2.out); (case side3 => repeat (first | exact (Kd.C_below HR0_3.out HB.out) | (with_reducible refine Kd.C_alloc ?_ _) | (with_reducible refine Kd.C_drewN ?_ _) | (with_reducible refine Kd.C_drew ?_))); (case side4 => exact HC0_3.out); rintro e w38 ⟨rfl, hb⟩; refine ⟨_, rfl, ?_⟩; replace BK159 := bb_ BK159 hb; replace BK160 := bb_ BK160 hb; replace BK161 := bb_ BK161 hb; replace HB := Aside0.mk (below_step hb_ hb); (try clear hb); (try clear hb2); (try clear hk); (try clear hi); refine hK.out _ _ Bb_0 (fun hHeld => ?_); clear hK K; refine no_ ?_; refine pu_ HT_.out 12 (some 19) u34_13 ?_; refine pu_ HT_.out 13 (some 20) u34_14 ?_; refine pu_ HT_.out 14 (some 21) u34_15 ?_; refine pz_ HT_.out 15 (some 22) u34_16 ?_; refine pz_ HT_.out 16 (some 23) u34_17 ?_; refine pz_ HT_.out 17 (some 24) u34_18 ?_; refine pu_ HT_.out 18 (some 25) u34_19 ?_; refine pu_ HT_.out 19 (some 26) u34_20 ?_; refine pz_ HT_.out 20 (some 27) u34_21 ?_; refine pz_ HT_.out 21 (some 28) u34_22 ?_; refine pz_ HT_.out 22 (some 29) u34_23 ?_; refine pz_ HT_.out 23 (some 30) u34_24 ?_; refine pz_ HT_.out 24 (some 31) u34_25 ?_; refine pz_ HT_.out 25 (some 32) u34_26 ?_; refine pz_ HT_.out 26 (some 33) u34_27 ?_; refine pu_ HT_.out 27 (some 34) u34_28 ?_; refine pu_ HT_.out 28 (some 35) u34_29 ?_; refine pz_ HT_.out 29 (some 36) u34_30 ?_; refine pz_ HT_.out 30 (some 37) u34_31 ?_; refine pz_ HT_.out 31 (some 38) u34_32 ?_; refine pu_ HT_.out 32 (some 39) u34_33 ?_; refine pu_ HT_.out 33 (some 6) u34_34 ?_; refine done_ (done_of HT_.out (by kernel_rfl)) ?_; try go_wp2
    go_ret; exact ⟨Bb_4, hb_⟩
  ·rw [if_neg c6] at H
   have c6b0 : decide (0 ≤ a2_0) = false := decide_eq_false c6; clear c6; obtain rfl := Option.some.inj H; go_enter Try.func233, Try.ntmps233; try go_wp2_with (first | ((with_reducible refine gate_dst (N := 3) rfl ?_); refine bx_ (N := 3) (cs := #[.int .i64 a0_0, .int .i64 a0_1, .slice A0_2 l0_2.length c0_2, .slice A0_3 l0_3.length c0_3]) (t := 33) ?_; intro gb159 hg w39 hbox hb; have BK159 := Aside0.mk (hbox); have GW159 := gw_ hg hb_; have GE159 := gw_ hg hb_; replace HB := Aside0.mk (below_step hb_ hb); clear hb hbox hg) | ((with_reducible refine gate_dst (N := 4) rfl ?_); refine bx_ (N := 4) (cs := #[.int .i64 a1_0, .bool a1_1, .bool a1_2, .bool a1_3]) (t := 35) ?_; intro gb160 hg w40 hbox hb; have BK160 := Aside0.mk (hbox); have GW160 := gw_ hg hb_; have GE160 := gw_ hg hb_; replace HB := Aside0.mk (below_step hb_ hb); obtain ⟨NB159_160, NB160_159, BK159⟩ := nb_ hg hb BK159; clear hb hbox hg) | ((with_reducible refine gate_dst (N := 5) rfl ?_); refine bx_ (N := 5) (cs := #[.int .i64 a2_0, .int .i64 a2_1, .int .i64 a2_2]) (t := 135) ?_; intro gb161 hg w41 hbox hb; have BK161 := Aside0.mk (hbox); have GW161 := gw_ hg hb_; have GE161 := gw_ hg hb_; replace HB := Aside0.mk (below_step hb_ hb); obtain ⟨NB159_161, NB161_159, BK159⟩ := nb_ hg hb BK159; obtain ⟨NB160_161, NB161_160, BK160⟩ := nb_ hg hb BK160; clear hb hbox hg))
   replace BK159 := Aside0.mk (blk_drew BK159.out); replace BK160 := Aside0.mk (blk_drew BK160.out); replace BK161 := Aside0.mk (blk_drew BK161.out); replace HB := Aside0.mk (below_drew1 HB.out); refine start_ (n := 34) (S := fun w' => w'.cell? ⟨gb160, 0, none⟩ = some (.int .i64 a1_0) ∧ w'.cell? ⟨gb160, 1, none⟩ = some (.bool a1_1) ∧ w'.cell? ⟨gb160, 2, none⟩ = some (.bool a1_2) ∧ w'.cell? ⟨gb160, 3, none⟩ = some (.bool a1_3) ∧ w'.cell? ⟨gb161, 0, none⟩ = some (.int .i64 a2_0) ∧ w'.cell? ⟨gb161, 1, none⟩ = some (.int .i64 a2_1) ∧ w'.cell? ⟨gb161, 2, none⟩ = some (.int .i64 a2_2)) (ds := []) u34_0 (by kernel_rfl) rfl rfl ⟨(blk_cell BK160.out 0).trans rfl, (blk_cell BK160.out 1).trans rfl, (blk_cell BK160.out 2).trans rfl, (blk_cell BK160.out 3).trans rfl, (blk_cell BK161.out 0).trans rfl, (blk_cell BK161.out 1).trans rfl, (blk_cell BK161.out 2).trans rfl⟩ (fun hHeld => ?_); refine with_tabW spec_HeadOk.tab1 spec_HeadOk.bits1 (fun HT_ HW_ => ?_); generalize w41.drew = w42 at BK159 BK160 BK161 HB hHeld ⊢
   refine take_ (i := 0) (N := some 7) (v := ?_) (a' := ?_) u34_1 rfl rfl (take_ofW HT_.out HW_.out (by kernel_rfl)) (fun _ _ _ h => h) (Or.inl ⟨(by rfl), ?_⟩) hHeld ?_ ?_; rotate_left
   ·rintro w' ⟨s0, s1, s2, s3, s4, s5, s6⟩
    go_simp; with_reducible rfl
   rotate_left
   ·simp only [Act.put, List.setIfInBounds_toArray, List.set_cons_zero, List.set_cons_succ, i64_w, i32_w]
    rfl
   refine one_ (i := 1) (N := some 8) u34_2 rfl rfl (one_of HT_.out (by kernel_rfl)) (by decide) (fun K hK => ?_); refine goes_ Try.func87 (by kernel_rfl) rfl #[.agg #[.int .i64 a1_0, .bool a1_1, .bool a1_2, .bool a1_3]] (by rfl) rfl rfl Bb_2 ?_; with_reducible refine (spec_ParOk.calls a1_0 a1_1 a1_2 a1_3 true _ A4.out).mono ?_
   rintro e w43 ⟨rfl, hb⟩; refine ⟨_, rfl, ?_⟩; replace BK159 := bb_ BK159 hb; replace BK160 := bb_ BK160 hb; replace BK161 := bb_ BK161 hb; replace HB := Aside0.mk (below_step hb_ hb); (try clear hb); (try clear hb2); (try clear hk); (try clear hi); refine hK.out _ _ (by exact ⟨(blk_cell BK160.out 0).trans rfl, (blk_cell BK160.out 1).trans rfl, (blk_cell BK160.out 2).trans rfl, (blk_cell BK160.out 3).trans rfl, (blk_cell BK161.out 0).trans rfl, (blk_cell BK161.out 1).trans rfl, (blk_cell BK161.out 2).trans rfl⟩) (fun hHeld => ?_); clear hK K; refine no_ ?_; refine pu_ HT_.out 2 (some 9) u34_3 ?_; refine pu_ HT_.out 3 (some 10) u34_4 ?_; refine take_ (i := 4) (N := some 11) (v := ?_) (a' := ?_) u34_5 rfl rfl (take_ofW HT_.out HW_.out (by kernel_rfl)) (fun _ _ _ h => h) (Or.inl ⟨(by rfl), ?_⟩) hHeld ?_ ?_; rotate_left
   ·rintro w' ⟨s0, s1, s2, s3, s4, s5, s6⟩
    go_simp; with_reducible rfl
   rotate_left
   ·simp only [Act.put, List.setIfInBounds_toArray, List.set_cons_zero, List.set_cons_succ, i64_w, i32_w]
    rfl
   refine pu_ HT_.out 5 (some 12) u34_6 ?_; refine pu_ HT_.out 6 (some 13) u34_7 ?_; refine pu_ HT_.out 7 (some 14) u34_8 ?_; refine pz_ HT_.out 8 (some 15) u34_9 ?_; refine pz_ HT_.out 9 (some 16) u34_10 ?_; refine pz_ HT_.out 10 (some 17) u34_11 ?_; refine pz_ HT_.out 11 (some 18) u34_12 ?_; refine pz_ HT_.out 12 (some 19) u34_13 ?_; refine pu_ HT_.out 13 (some 20) u34_14 ?_; refine pu_ HT_.out 14 (some 21) u34_15 ?_; refine pz_ HT_.out 15 (some 22) u34_16 ?_; refine pz_ HT_.out 16 (some 23) u34_17 ?_; refine pz_ HT_.out 17 (some 24) u34_18 ?_; refine pu_ HT_.out 18 (some 25) u34_19 ?_; refine pu_ HT_.out 19 (some 26) u34_20 ?_; refine pz_ HT_.out 20 (some 27) u34_21 ?_; refine pz_ HT_.out 21 (some 28) u34_22 ?_; refine pz_ HT_.out 22 (some 29) u34_23 ?_; refine pz_ HT_.out 23 (some 30) u34_24 ?_; refine pz_ HT_.out 24 (some 31) u34_25 ?_; refine pz_ HT_.out 25 (some 32) u34_26 ?_; refine pz_ HT_.out 26 (some 33) u34_27 ?_; refine pu_ HT_.out 27 (some 34) u34_28 ?_; refine pu_ HT_.out 28 (some 35) u34_29 ?_; refine pz_ HT_.out 29 (some 36) u34_30 ?_; refine pz_ HT_.out 30 (some 37) u34_31 ?_; refine pz_ HT_.out 31 (some 38) u34_32 ?_; refine pu_ HT_.out 32 (some 39) u34_33 ?_; refine pu_ HT_.out 33 (some 6) u34_34 ?_; refine done_ (done_of HT_.out (by kernel_rfl)) ?_; try go_wp2
   go_ret; exact ⟨Bb_4, hb_⟩
 ·replace c5 := Bool.eq_false_iff.mpr c5
  subst c5; rw [if_neg (show ¬ (false = true) by decide)] at H; obtain rfl := Option.some.inj H; go_enter Try.func233, Try.ntmps233; try go_wp2_with (first | ((with_reducible refine gate_dst (N := 3) rfl ?_); refine bx_ (N := 3) (cs := #[.int .i64 a0_0, .int .i64 a0_1, .slice A0_2 l0_2.length c0_2, .slice A0_3 l0_3.length c0_3]) (t := 33) ?_; intro gb159 hg w44 hbox hb; have BK159 := Aside0.mk (hbox); have GW159 := gw_ hg hb_; have GE159 := gw_ hg hb_; replace HB := Aside0.mk (below_step hb_ hb); clear hb hbox hg) | ((with_reducible refine gate_dst (N := 4) rfl ?_); refine bx_ (N := 4) (cs := #[.int .i64 a1_0, .bool a1_1, .bool a1_2, .bool a1_3]) (t := 35) ?_; intro gb160 hg w45 hbox hb; have BK160 := Aside0.mk (hbox); have GW160 := gw_ hg hb_; have GE160 := gw_ hg hb_; replace HB := Aside0.mk (below_step hb_ hb); obtain ⟨NB159_160, NB160_159, BK159⟩ := nb_ hg hb BK159; clear hb hbox hg) | ((with_reducible refine gate_dst (N := 5) rfl ?_); refine bx_ (N := 5) (cs := #[.int .i64 a2_0, .int .i64 a2_1, .int .i64 a2_2]) (t := 135) ?_; intro gb161 hg w46 hbox hb; have BK161 := Aside0.mk (hbox); have GW161 := gw_ hg hb_; have GE161 := gw_ hg hb_; replace HB := Aside0.mk (below_step hb_ hb); obtain ⟨NB159_161, NB161_159, BK159⟩ := nb_ hg hb BK159; obtain ⟨NB160_161, NB161_160, BK160⟩ := nb_ hg hb BK160; clear hb hbox hg))
  replace BK159 := Aside0.mk (blk_drew BK159.out); replace BK160 := Aside0.mk (blk_drew BK160.out); replace BK161 := Aside0.mk (blk_drew BK161.out); replace HB := Aside0.mk (below_drew1 HB.out); refine start_ (n := 34) (S := fun w' => w'.cell? ⟨gb160, 0, none⟩ = some (.int .i64 a1_0) ∧ w'.cell? ⟨gb160, 1, none⟩ = some (.bool a1_1) ∧ w'.cell? ⟨gb160, 2, none⟩ = some (.bool a1_2) ∧ w'.cell? ⟨gb160, 3, none⟩ = some (.bool a1_3)) (ds := []) u34_0 (by kernel_rfl) rfl rfl ⟨(blk_cell BK160.out 0).trans rfl, (blk_cell BK160.out 1).trans rfl, (blk_cell BK160.out 2).trans rfl, (blk_cell BK160.out 3).trans rfl⟩ (fun hHeld => ?_); refine with_tabW spec_HeadOk.tab1 spec_HeadOk.bits1 (fun HT_ HW_ => ?_); generalize w46.drew = w47 at BK159 BK160 BK161 HB hHeld ⊢
  refine take_ (i := 0) (N := some 7) (v := ?_) (a' := ?_) u34_1 rfl rfl (take_ofW HT_.out HW_.out (by kernel_rfl)) (fun _ _ _ h => h) (Or.inl ⟨(by rfl), ?_⟩) hHeld ?_ ?_; rotate_left
  ·rintro w' ⟨s0, s1, s2, s3⟩
   go_simp; with_reducible rfl
  rotate_left
  ·simp only [Act.put, List.setIfInBounds_toArray, List.set_cons_zero, List.set_cons_succ, i64_w, i32_w]
   rfl
  refine one_ (i := 1) (N := some 8) u34_2 rfl rfl (one_of HT_.out (by kernel_rfl)) (by decide) (fun K hK => ?_); refine goes_ Try.func87 (by kernel_rfl) rfl #[.agg #[.int .i64 a1_0, .bool a1_1, .bool a1_2, .bool a1_3]] (by rfl) rfl rfl Bb_2 ?_; with_reducible refine (spec_ParOk.calls a1_0 a1_1 a1_2 a1_3 false _ A4.out).mono ?_
  rintro e w48 ⟨rfl, hb⟩; refine ⟨_, rfl, ?_⟩; replace BK159 := bb_ BK159 hb; replace BK160 := bb_ BK160 hb; replace BK161 := bb_ BK161 hb; replace HB := Aside0.mk (below_step hb_ hb); (try clear hb); (try clear hb2); (try clear hk); (try clear hi); refine hK.out _ _ (by exact ⟨(blk_cell BK160.out 0).trans rfl, (blk_cell BK160.out 1).trans rfl, (blk_cell BK160.out 2).trans rfl, (blk_cell BK160.out 3).trans rfl⟩) (fun hHeld => ?_); clear hK K; refine no_ ?_; refine pu_ HT_.out 2 (some 9) u34_3 ?_; refine pz_ HT_.out 3 (some 10) u34_4 ?_; refine pz_ HT_.out 4 (some 11) u34_5 ?_; refine pz_ HT_.out 5 (some 12) u34_6 ?_; refine pu_ HT_.out 6 (some 13) u34_7 ?_; refine pu_ HT_.out 7 (some 14) u34_8 ?_; refine pz_ HT_.out 8 (some 15) u34_9 ?_; refine pz_ HT_.out 9 (some 16) u34_10 ?_; refine pz_ HT_.out 10 (some 17) u34_11 ?_; refine pz_ HT_.out 11 (some 18) u34_12 ?_; refine pz_ HT_.out 12 (some 19) u34_13 ?_; refine pu_ HT_.out 13 (some 20) u34_14 ?_; refine pu_ HT_.out 14 (some 21) u34_15 ?_; refine pz_ HT_.out 15 (some 22) u34_16 ?_; refine pz_ HT_.out 16 (some 23) u34_17 ?_; refine pz_ HT_.out 17 (some 24) u34_18 ?_; refine pu_ HT_.out 18 (some 25) u34_19 ?_; refine pu_ HT_.out 19 (some 26) u34_20 ?_; refine pz_ HT_.out 20 (some 27) u34_21 ?_; refine pz_ HT_.out 21 (some 28) u34_22 ?_; refine pz_ HT_.out 22 (some 29) u34_23 ?_; refine pz_ HT_.out 23 (some 30) u34_24 ?_; refine pz_ HT_.out 24 (some 31) u34_25 ?_; refine pz_ HT_.out 25 (some 32) u34_26 ?_; refine pz_ HT_.out 26 (some 33) u34_27 ?_; refine pu_ HT_.out 27 (some 34) u34_28 ?_; refine pu_ HT_.out 28 (some 35) u34_29 ?_; refine pz_ HT_.out 29 (some 36) u34_30 ?_; refine pz_ HT_.out 30 (some 37) u34_31 ?_; refine pz_ HT_.out 31 (some 38) u34_32 ?_; refine pu_ HT_.out 32 (some 39) u34_33 ?_; refine pu_ HT_.out 33 (some 6) u34_34 ?_; refine done_ (done_of HT_.out (by kernel_rfl)) ?_; try go_wp2
  go_ret; exact ⟨Bb_4, hb_⟩
end Go.Proofs.Ytbjambmdononiaa.PFnExactPictureParts
namespace Go.Proofs.Ytbjambmdononiaa.PFnExactPictureParts
open Go.RowKit Go.Proofs.YtbjambmdononiaaW.PrintWords Go.Proofs.YtbjambmdononiaaW.PrintLast Go.Proofs.YtbjambmdononiaaW.PrintMore
attribute [local go_sem] max2_int min2_int max_two min_two max_three min_three max_four min_four
set_option linter.unusedVariables false
set_option linter.unusedSimpArgs false
def spec_ReadHead.j0 : Nat → ByteArray → Bool → Int → Int → List Int → List Int → Int → Bool → Bool → Bool → Option (Int × Int × Int × Int × Bool)
 | 0, _, _, _, _, _, _, _, _, _, _ => none
 | k + 1, x2, x31, x166000, x166001, x166002, x166003, x167000, x167001, x167002, x167003 => if x31 = true then (some (0, 0, 0, 0, false)) else ((spec_l03ReadUe.f k x2 0).bind fun bt171 => (if bt171.2.2 = true then ((spec_l02Read.f k x2 bt171.2.1 x166001).bind fun bt174 => (if bt174.2.2 = true then ((spec_l03ReadSe.f k x2 bt174.2.1).bind fun bt177 => (if bt177.2.2 = true then ((spec_HeadOk.f k x166000 x166001 x166002 x166003 x167000 x167001 x167002 x167003 bt171.1 bt174.1 (wrap64 (x167000 + bt177.1))).bind fun t181 => (if t181 = true then (some (bt171.1, bt174.1, wrap64 (x167000 + bt177.1), bt177.2.1, true)) else (some (0, 0, 0, 0, false)))) else (some (0, 0, 0, 0, false)))) else (some (0, 0, 0, 0, false)))) else (some (0, 0, 0, 0, false))))
def spec_ReadHead.f (k : Nat) (a0_0 : Int) (a0_1 : Int) (l0_2 : List Int) (l0_3 : List Int) (a1_0 : Int) (a1_1 : Bool) (a1_2 : Bool) (a1_3 : Bool) (a2 : ByteArray) : Option (Int × Int × Int × Int × Bool) := (spec_RowOk.f k a2).bind fun t168 => (if t168 = true then ((spec_SeqOk.f k a0_0 a0_1 l0_2 l0_3).bind fun t169 => (if t169 = true then ((spec_ParOk.f a1_0 a1_1 a1_2 a1_3).bind fun t170 => (spec_ReadHead.j0 k a2 (!t170) a0_0 a0_1 l0_2 l0_3 a1_0 a1_1 a1_2 a1_3)) else (spec_ReadHead.j0 k a2 true a0_0 a0_1 l0_2 l0_3 a1_0 a1_1 a1_2 a1_3))) else (spec_ReadHead.j0 k a2 true a0_0 a0_1 l0_2 l0_3 a1_0 a1_1 a1_2 a1_3))
theorem spec_ReadHead.mono_l : ∀ k, (∀ y0 y1 y2 y3 y4 y5 y6 y7 y8 y9, LeO (spec_ReadHead.j0 k y0 y1 y2 y3 y4 y5 y6 y7 y8 y9) (spec_ReadHead.j0 (k + 1) y0 y1 y2 y3 y4 y5 y6 y7 y8 y9))
 | 0 => fun _ _ _ _ _ _ _ _ _ _ r h => by simp [spec_ReadHead.j0] at h
 | k + 1 => by
  have ih0 := spec_ReadHead.mono_l k
  ·intro y0 y1 y2 y3 y4 y5 y6 y7 y8 y9
   unfold spec_ReadHead.j0
   repeat' first
   | (with_reducible exact ih0 _ _ _ _ _ _ _ _ _ _)
   | (with_reducible exact spec_HeadOk.mono _ _ _ _ _ _ _ _ _ _ _ _)
   | (with_reducible exact spec_RowOk.mono _ _)
   | (with_reducible exact spec_SeqOk.mono _ _ _ _ _)
   | (with_reducible exact spec_l02Read.mono _ _ _ _)
   | (with_reducible exact spec_l03ReadSe.mono _ _ _)
   | (with_reducible exact spec_l03ReadUe.mono _ _ _)
   | (with_reducible exact LeO.refl _)
   | (with_reducible exact LeO.none _)
   | (with_reducible refine LeO.ite ?_ ?_)
   | (with_reducible refine LeO.bind ?_ (fun _ => ?_))
   | exact ih0 _ _ _ _ _ _ _ _ _ _
   | exact spec_HeadOk.mono _ _ _ _ _ _ _ _ _ _ _ _
   | exact spec_RowOk.mono _ _
   | exact spec_SeqOk.mono _ _ _ _ _
   | exact spec_l02Read.mono _ _ _ _
   | exact spec_l03ReadSe.mono _ _ _
   | exact spec_l03ReadUe.mono _ _ _
   | exact LeO.none _
   | refine LeO.ite ?_ ?_
   | refine LeO.bind ?_ (fun _ => ?_)
theorem spec_ReadHead.mono : ∀ a0 a1 a2 a3 a4 a5 a6 a7 a8 k, LeO (spec_ReadHead.f k a0 a1 a2 a3 a4 a5 a6 a7 a8) (spec_ReadHead.f (k + 1) a0 a1 a2 a3 a4 a5 a6 a7 a8) := by
 intro a0 a1 a2 a3 a4 a5 a6 a7 a8 k; have ih0 := spec_ReadHead.mono_l k; unfold spec_ReadHead.f
 repeat' first
   | (with_reducible exact ih0 _ _ _ _ _ _ _ _ _ _)
   | (with_reducible exact spec_HeadOk.mono _ _ _ _ _ _ _ _ _ _ _ _)
   | (with_reducible exact spec_RowOk.mono _ _)
   | (with_reducible exact spec_SeqOk.mono _ _ _ _ _)
   | (with_reducible exact spec_l02Read.mono _ _ _ _)
   | (with_reducible exact spec_l03ReadSe.mono _ _ _)
   | (with_reducible exact spec_l03ReadUe.mono _ _ _)
   | (with_reducible exact LeO.refl _)
   | (with_reducible exact LeO.none _)
   | (with_reducible refine LeO.ite ?_ ?_)
   | (with_reducible refine LeO.bind ?_ (fun _ => ?_))
   | exact ih0 _ _ _ _ _ _ _ _ _ _
   | exact spec_HeadOk.mono _ _ _ _ _ _ _ _ _ _ _ _
   | exact spec_RowOk.mono _ _
   | exact spec_SeqOk.mono _ _ _ _ _
   | exact spec_l02Read.mono _ _ _ _
   | exact spec_l03ReadSe.mono _ _ _
   | exact spec_l03ReadUe.mono _ _ _
   | exact LeO.none _
   | refine LeO.ite ?_ ?_
   | refine LeO.bind ?_ (fun _ => ?_)
set_option maxHeartbeats 8000000 in
set_option maxRecDepth 100000 in
theorem spec_ReadHead.calls (k : Nat) (a0_0 : Int) (a0_1 : Int) (A0_2 : Option Addr) (c0_2 : Nat) (l0_2 : List Int) (A0_3 : Option Addr) (c0_3 : Nat) (l0_3 : List Int) (a1_0 : Int) (a1_1 : Bool) (a1_2 : Bool) (a1_3 : Bool) (a2 : ByteArray) (r1 : Int) (r2 : Int) (r3 : Int) (r4 : Int) (r5 : Bool) (w : World) (hr0_2 : Kd.C (Kd.int .i64) w A0_2 l0_2.length l0_2) (hc0_2 : l0_2.length ≤ c0_2) (hr0_3 : Kd.C (Kd.int .i64) w A0_3 l0_3.length l0_3) (hc0_3 : l0_3.length ≤ c0_3) (h : spec_ReadHead.f k a0_0 a0_1 l0_2 l0_3 a1_0 a1_1 a1_2 a1_3 a2 = some (r1, r2, r3, r4, r5)) :
  Calls Try.prog 161 #[.agg #[.int .i64 a0_0, .int .i64 a0_1, .slice A0_2 l0_2.length c0_2, .slice A0_3 l0_3.length c0_3], .agg #[.int .i64 a1_0, .bool a1_1, .bool a1_2, .bool a1_3], .string a2] w fun e w' => e = .returned (.tuple #[.agg #[.int .i64 r1, .int .i64 r2, .int .i64 r3], .int .i64 r4, .bool r5]) ∧ Below w.heap.size w w' := by
 have hu33 := Try.underlying33; have hu35 := Try.underlying35; have hu135 := Try.underlying135; have HR0_2 := Aside0.mk hr0_2; have HC0_2 := Aside0.mk hc0_2; clear hr0_2 hc0_2; have HR0_3 := Aside0.mk hr0_3; have HC0_3 := Aside0.mk hc0_3; clear hr0_3 hc0_3; have HB := Aside0.mk (Below.refl w.heap.size w); have H : ((spec_RowOk.f k a2).bind fun t168 => (if t168 = true then ((spec_SeqOk.f k a0_0 a0_1 l0_2 l0_3).bind fun t169 => (if t169 = true then ((spec_ParOk.f a1_0 a1_1 a1_2 a1_3).bind fun t170 => (spec_ReadHead.j0 k a2 (!t170) a0_0 a0_1 l0_2 l0_3 a1_0 a1_1 a1_2 a1_3)) else (spec_ReadHead.j0 k a2 true a0_0 a0_1 l0_2 l0_3 a1_0 a1_1 a1_2 a1_3))) else (spec_ReadHead.j0 k a2 true a0_0 a0_1 l0_2 l0_3 a1_0 a1_1 a1_2 a1_3))) = some (r1, r2, r3, r4, r5) := h; clear h; have HC4 := Aside0.mk H; clear H; go_enter Try.func161, Try.ntmps161; go_upto_region 1 with (first | ((with_reducible refine gate_dst (N := 3) rfl ?_); refine bx_ (N := 3) (cs := #[.int .i64 a0_0, .int .i64 a0_1, .slice A0_2 l0_2.length c0_2, .slice A0_3 l0_3.length c0_3]) (t := 33) ?_; intro gb165 hg w5 hbox hb; have BK165 := Aside0.mk (hbox); have GW165 := gw_ hg hb_; have GE165 := gw_ hg hb_; replace HB := Aside0.mk (below_step hb_ hb); clear hb hbox hg) | ((with_reducible refine gate_dst (N := 4) rfl ?_); refine bx_ (N := 4) (cs := #[.int .i64 a1_0, .bool a1_1, .bool a1_2, .bool a1_3]) (t := 35) ?_; intro gb166 hg w6 hbox hb; have BK166 := Aside0.mk (hbox); have GW166 := gw_ hg hb_; have GE166 := gw_ hg hb_; replace HB := Aside0.mk (below_step hb_ hb); obtain ⟨NB165_166, NB166_165, BK165⟩ := nb_ hg hb BK165; clear hb hbox hg) | ((with_reducible refine gate_dst (N := 6) rfl ?_); refine bx_ (N := 6) (cs := #[.int .i64 0, .int .i64 0, .int .i64 0]) (t := 135) ?_; intro gb167 hg w7 hbox hb; have BK167 := Aside0.mk (hbox); have GW167 := gw_ hg hb_; have GE167 := gw_ hg hb_; replace HB := Aside0.mk (below_step hb_ hb); obtain ⟨NB165_167, NB167_165, BK165⟩ := nb_ hg hb BK165; obtain ⟨NB166_167, NB167_166, BK166⟩ := nb_ hg hb BK166; clear hb hbox hg))
 (try simp only [Act.put, List.setIfInBounds_toArray, List.set_cons_zero, List.set_cons_succ]); go_cut [31] (fun v31 wc => ∃ (kq : Nat) (x31_3 : Bool), v31 = .bool x31_3 ∧ Aside0 (spec_ReadHead.j0 kq a2 x31_3 a0_0 a0_1 l0_2 l0_3 a1_0 a1_1 a1_2 a1_3 = some (r1, r2, r3, r4, r5)) ∧ Aside0 (kq ≤ k) ∧ Aside0 (wc.heap[gb165]? = some (.cells #[.int .i64 a0_0, .int .i64 a0_1, (.slice A0_2 l0_2.length c0_2), (.slice A0_3 l0_3.length c0_3)] 33 (0, 0))) ∧ Aside0 (wc.heap[gb166]? = some (.cells #[.int .i64 a1_0, .bool a1_1, .bool a1_2, .bool a1_3] 35 (0, 0))) ∧ Aside0 (wc.heap[gb167]? = some (.cells #[.int .i64 0, .int .i64 0, .int .i64 0] 135 (0, 0))) ∧ Aside0 (Below w.heap.size w wc))
 case first =>
  have H := HC4.out; clear HC4; replace H := Option.bind_eq_some_iff.mp H; obtain ⟨t168, A80, H⟩ := H; try dsimp only at H
  have A8 := Aside0.mk A80; clear A80; by_cases c9 : t168 = true
  ·subst c9
   rw [if_pos rfl] at H; replace H := Option.bind_eq_some_iff.mp H; obtain ⟨t169, A100, H⟩ := H; try dsimp only at H
   have A10 := Aside0.mk A100; clear A100; by_cases c11 : t169 = true
   ·subst c11
    rw [if_pos rfl] at H; replace H := Option.bind_eq_some_iff.mp H; obtain ⟨t170, A120, H⟩ := H; try dsimp only at H
    have A12 := Aside0.mk A120; clear A120; have H' := Aside0.mk H; clear H; go_wp2_with (first | ((with_reducible refine gate_callee (f := 171) rfl ?_); refine gA_ (some 20) Try.func171 (spec_RowOk.calls _ _ _ _ A8.out) ?_; rintro e w' ⟨rfl, ⟨nd, rfl⟩⟩; refine ⟨_, rfl, ?_⟩; have hnb13 := NB165_166.out; have hnc13 := NB166_165.out; have hnb14 := NB165_167.out; have hnc14 := NB167_165.out; have hz15 := bc4_ BK165.out) | (go_at_call 86; (with_reducible refine (spec_SeqOk.calls k a0_0 a0_1 _ _ l0_2 _ _ l0_3 true _ ?side1 ?side2 ?side3 ?side4 A10.out).mono ?_); (case side1 => repeat (first | exact (Kd.C_below HR0_2.out hb_) | (with_reducible refine Kd.C_alloc ?_ _) | (with_reducible refine Kd.C_drewN ?_ _) | (with_reducible refine Kd.C_drew ?_))); (case side2 => exact HC0_2.out); (case side3 => repeat (first | exact (Kd.C_below HR0_3.out hb_) | (with_reducible refine Kd.C_alloc ?_ _) | (with_reducible refine Kd.C_drewN ?_ _) | (with_reducible refine Kd.C_drew ?_))); (case side4 => exact HC0_3.out); rintro e w16 ⟨rfl, hb⟩; replace BK165 := bb_ BK165 hb; replace BK166 := bb_ BK166 hb; replace BK167 := bb_ BK167 hb; replace HB := Aside0.mk (below_step hb_ hb); (try clear hb); (try clear hb2); (try clear hk); (try clear hi); have hnb17 := NB166_167.out; have hnc17 := NB167_166.out; have hz18 := bc4_ BK166.out) | (go_at_call 87; (with_reducible refine (spec_ParOk.calls a1_0 a1_1 a1_2 a1_3 t170 _ A12.out).mono ?_); rintro e w19 ⟨rfl, hb⟩; replace BK165 := bb_ BK165 hb; replace BK166 := bb_ BK166 hb; replace BK167 := bb_ BK167 hb; replace HB := Aside0.mk (below_step hb_ hb); (try clear hb); (try clear hb2); (try clear hk); (try clear hi))); go_meet
    case rel => exact ⟨_, (!t170), Bb_5, H', ⟨(by first | omega | exact Nat.le_refl _)⟩, ⟨Bb_6⟩, ⟨Bb_7⟩, ⟨Bb_8⟩, ⟨hb_⟩⟩
   ·replace c11 := Bool.eq_false_iff.mpr c11
    subst c11; rw [if_neg (show ¬ (false = true) by decide)] at H; have H' := Aside0.mk H; clear H; go_wp2_with (first | ((with_reducible refine gate_callee (f := 171) rfl ?_); refine gA_ (some 20) Try.func171 (spec_RowOk.calls _ _ _ _ A8.out) ?_; rintro e w' ⟨rfl, ⟨nd, rfl⟩⟩; refine ⟨_, rfl, ?_⟩; have hnb20 := NB165_166.out; have hnc20 := NB166_165.out; have hnb21 := NB165_167.out; have hnc21 := NB167_165.out; have hz22 := bc4_ BK165.out) | (go_at_call 86; (with_reducible refine (spec_SeqOk.calls k a0_0 a0_1 _ _ l0_2 _ _ l0_3 false _ ?side1 ?side2 ?side3 ?side4 A10.out).mono ?_); (case side1 => repeat (first | exact (Kd.C_below HR0_2.out hb_) | (with_reducible refine Kd.C_alloc ?_ _) | (with_reducible refine Kd.C_drewN ?_ _) | (with_reducible refine Kd.C_drew ?_))); (case side2 => exact HC0_2.out); (case side3 => repeat (first | exact (Kd.C_below HR0_3.out hb_) | (with_reducible refine Kd.C_alloc ?_ _) | (with_reducible refine Kd.C_drewN ?_ _) | (with_reducible refine Kd.C_drew ?_))); (case side4 => exact HC0_3.out); rintro e w23 ⟨rfl, hb⟩; replace BK165 := bb_ BK165 hb; replace BK166 := bb_ BK166 hb; replace BK167 := bb_ BK167 hb; replace HB := Aside0.mk (below_step hb_ hb); (try clear hb); (try clear hb2); (try clear hk); (try clear hi))); go_meet
    case rel => exact ⟨_, (true), Bb_5, H', ⟨(by first | omega | exact Nat.le_refl _)⟩, ⟨Bb_6⟩, ⟨Bb_7⟩, ⟨Bb_8⟩, ⟨hb_⟩⟩
  ·replace c9 := Bool.eq_false_iff.mpr c9
   subst c9; rw [if_neg (show ¬ (false = true) by decide)] at H; have H' := Aside0.mk H; clear H; go_wp2_with (first | ((with_reducible refine gate_callee (f := 171) rfl ?_); refine gA_ (some 20) Try.func171 (spec_RowOk.calls _ _ _ _ A8.out) ?_; rintro e w' ⟨rfl, ⟨nd, rfl⟩⟩; refine ⟨_, rfl, ?_⟩)); go_meet
   case rel => exact ⟨_, (true), Bb_5, H', ⟨(by first | omega | exact Nat.le_refl _)⟩, ⟨Bb_6⟩, ⟨Bb_7⟩, ⟨Bb_8⟩, ⟨hb_⟩⟩
 case rest =>
  clear HC4; try clear c1; try clear c2; try clear p2; try clear c9; try clear c11; try clear c13; try clear c14; try clear c16; try clear c17; try clear c20; try clear c21; try clear hz15; try clear hz18; try clear hz22
  obtain ⟨kq, x31_3, rfl, HA, HJ3, BK165, BK166, BK167, HB⟩ := hcut; cases kq with
  | zero => exact absurd HA.out (by simp [spec_ReadHead.j0])
  | succ kj3 =>
   have H := HA.out; clear HA; simp only [spec_ReadHead.j0] at H; by_cases c24 : x31_3 = true
   ·subst c24
    rw [if_pos rfl] at H; simp only [Option.some.injEq, Prod.mk.injEq] at H; obtain ⟨rfl, rfl, rfl, rfl, rfl⟩ := H; have hnb25 := NB167_165.out; have hnc25 := NB165_167.out; have hnb26 := NB167_166.out; have hnc26 := NB166_167.out; have hz27 := bc3_ BK167.out; go_wp2; refine bodyPost_ret (results_ctt rfl _ _ gb167 135 #[.int .i64 0, .int .i64 0, .int .i64 0] (0, 0) _ rfl Bb_1 Try.underlying135 rfl (by kernel_rfl)) rfl ?_; exact ⟨Bb_4, hb_⟩
   ·replace c24 := Bool.eq_false_iff.mpr c24
    subst c24; rw [if_neg (show ¬ (false = true) by decide)] at H; replace H := Option.bind_eq_some_iff.mp H; obtain ⟨⟨t171, t172, t173⟩, A280, H⟩ := H; try dsimp only at H
    have A28 := Aside0.mk A280; clear A280; have HC29 := Aside0.mk H; clear H; go_upto_if 40 with (first | ((with_reducible refine gate_callee (f := 230) rfl ?_); refine gA_ (some 35) Try.func230 (spec_l03ReadUe.calls _ _ _ _ _ _ _ A28.out) ?_; rintro e w' ⟨rfl, ⟨nd, rfl⟩⟩; refine ⟨_, rfl, ?_⟩))
    (try simp only [Act.put, List.setIfInBounds_toArray, List.set_cons_zero, List.set_cons_succ]); have H := HC29.out; clear HC29; by_cases c30 : t173 = true
    ·subst c30
     rw [if_pos rfl] at H; replace H := Option.bind_eq_some_iff.mp H; obtain ⟨⟨t174, t175, t176⟩, A310, H⟩ := H; try dsimp only at H
     have A31 := Aside0.mk A310; clear A310; have HC32 := Aside0.mk H; clear H; have hnb33 := NB165_166.out; have hnc33 := NB166_165.out; have hnb34 := NB165_167.out; have hnc34 := NB167_165.out; have hz35 := bc4_ BK165.out; go_upto_if 52 with (first | ((with_reducible refine gate_callee (f := 231) rfl ?_); refine gA_ (some 47) Try.func231 (spec_l02Read.calls _ _ _ _ _ _ _ _ A31.out) ?_; rintro e w' ⟨rfl, ⟨nd, rfl⟩⟩; refine ⟨_, rfl, ?_⟩))
     (try simp only [Act.put, List.setIfInBounds_toArray, List.set_cons_zero, List.set_cons_succ]); have H := HC32.out; clear HC32; by_cases c36 : t176 = true
     ·subst c36
      rw [if_pos rfl] at H; replace H := Option.bind_eq_some_iff.mp H; obtain ⟨⟨t177, t178, t179⟩, A370, H⟩ := H; try dsimp only at H
      have A37 := Aside0.mk A370; clear A370; have HC38 := Aside0.mk H; clear H; go_upto_region 11 with (first | ((with_reducible refine gate_callee (f := 232) rfl ?_); refine gA_ (some 57) Try.func232 (spec_l03ReadSe.calls _ _ _ _ _ _ _ A37.out) ?_; rintro e w' ⟨rfl, ⟨nd, rfl⟩⟩; refine ⟨_, rfl, ?_⟩; (try (rw [drewN_self wc]; generalize hq_ : World.drewN wc _ = wc; have n0_ : Aside0 (wc.heap[gb165]? = some (.cells #[.int .i64 a0_0, .int .i64 a0_1, .slice A0_2 l0_2.length c0_2, .slice A0_3 l0_3.length c0_3] 33 (0, 0))) := ⟨(by rw [← hq_]; exact Bb_6)⟩; have n1_ : Aside0 (wc.heap[gb166]? = some (.cells #[.int .i64 a1_0, .bool a1_1, .bool a1_2, .bool a1_3] 35 (0, 0))) := ⟨(by rw [← hq_]; exact Bb_7)⟩; have n2_ : Aside0 (wc.heap[gb167]? = some (.cells #[.int .i64 0, .int .i64 0, .int .i64 0] 135 (0, 0))) := ⟨(by rw [← hq_]; exact Bb_8)⟩; have n3_ : Aside0 (Below w.heap.size w wc) := ⟨(by rw [← hq_]; exact hb_)⟩; clear BK165 BK166 BK167 HB hq_; have BK165 := n0_; have BK166 := n1_; have BK167 := n2_; have HB := n3_; clear n0_ n1_ n2_ n3_)); have hnb39 := NB166_165.out; have hnc39 := NB165_166.out; have hnb40 := NB166_167.out; have hnc40 := NB167_166.out; have hz41 := bc4_ BK166.out) | ((with_reducible refine gate_dst (N := 18) rfl ?_); refine bx_ (N := 18) (cs := #[.int .i64 0, .int .i64 0, .int .i64 0]) (t := 135) ?_; intro gb180 hg w42 hbox hb; have BK180 := Aside0.mk (hbox); have GW180 := gw_ hg hb_; have GE180 := gw_ hg hb_; replace HB := Aside0.mk (below_step hb_ hb); obtain ⟨NB165_180, NB180_165, BK165⟩ := nb_ hg hb BK165; obtain ⟨NB166_180, NB180_166, BK166⟩ := nb_ hg hb BK166; obtain ⟨NB167_180, NB180_167, BK167⟩ := nb_ hg hb BK167; clear hb hbox hg; have hnb43 := NB180_165.out; have hnc43 := NB165_180.out; have hnb44 := NB180_166.out; have hnc44 := NB166_180.out; have hnb45 := NB180_167.out; have hnc45 := NB167_180.out; have hz46 := bc3_ BK180.out))
      (try simp only [Act.put, List.setIfInBounds_toArray, List.set_cons_zero, List.set_cons_succ]); have H := HC38.out; clear HC38; by_cases c47 : t179 = true
      ·subst c47
       rw [if_pos rfl] at H; replace H := Option.bind_eq_some_iff.mp H; obtain ⟨t181, A480, H⟩ := H; try dsimp only at H
       have A48 := Aside0.mk A480; clear A480; have HC49 := Aside0.mk H; clear H; have hnb50 := NB165_166.out; have hnc50 := NB166_165.out; have hnb51 := NB165_167.out; have hnc51 := NB167_165.out; have hnb52 := NB165_180.out; have hnc52 := NB180_165.out; have hz53 := bc4_ BK165.out; have hnb54 := NB166_167.out; have hnc54 := NB167_166.out; have hnb55 := NB166_180.out; have hnc55 := NB180_166.out; have hz56 := bc4_ BK166.out; have hnb57 := NB180_167.out; have hnc57 := NB167_180.out; have hz58 := bc3_ BK180.out; go_upto_if 76 with (first | (go_at_call 233; (with_reducible refine (spec_HeadOk.calls kj3 a0_0 a0_1 _ _ l0_2 _ _ l0_3 a1_0 a1_1 a1_2 a1_3 t171 t174 (wrap64 (a1_0 + t177)) t181 _ ?side1 ?side2 ?side3 ?side4 A48.out).mono ?_); (case side1 => exact Kd.C_below HR0_2.out hb_); (case side2 => exact HC0_2.out); (case side3 => exact Kd.C_below HR0_3.out hb_); (case side4 => exact HC0_3.out); rintro e w59 ⟨rfl, hb⟩; replace BK165 := bb_ BK165 hb; replace BK166 := bb_ BK166 hb; replace BK167 := bb_ BK167 hb; replace BK180 := Aside0.mk (blk_below (g := gb180) (o := .cells #[.int .i64 t171, .int .i64 t174, .int .i64 (wrap64 (a1_0 + t177))] 135 (0, 0)) (by (with_reducible repeat (first | refine blk_drewN ?_ _ | refine blk_drew ?_ | refine blk_alloc ?_ _)); refine blk_put (cs := #[.int .i64 t171, .int .i64 t174, .int .i64 0]) ?_ 2 _ rfl; (with_reducible repeat (first | refine blk_drewN ?_ _ | refine blk_drew ?_ | refine blk_alloc ?_ _)); refine blk_put (cs := #[.int .i64 t171, .int .i64 0, .int .i64 0]) ?_ 1 _ rfl; (with_reducible repeat (first | refine blk_drewN ?_ _ | refine blk_drew ?_ | refine blk_alloc ?_ _)); refine blk_put (cs := #[.int .i64 0, .int .i64 0, .int .i64 0]) ?_ 0 _ rfl; (with_reducible repeat (first | refine blk_drewN ?_ _ | refine blk_drew ?_ | refine blk_alloc ?_ _)); exact BK180.out) hb); replace HB := Aside0.mk (below_step hb_ hb); (try clear hb); (try clear hb2); (try clear hk); (try clear hi)))
       (try simp only [Act.put, List.setIfInBounds_toArray, List.set_cons_zero, List.set_cons_succ]); have H := HC49.out; clear HC49; by_cases c60 : t181 = true
       ·subst c60
        rw [if_pos rfl] at H; simp only [Option.some.injEq, Prod.mk.injEq] at H; obtain ⟨rfl, rfl, rfl, rfl, rfl⟩ := H; have hnb61 := NB180_165.out; have hnc61 := NB165_180.out; have hnb62 := NB180_166.out; have hnc62 := NB166_180.out; have hnb63 := NB180_167.out; have hnc63 := NB167_180.out; have hz64 := bc3_ BK180.out; have hnb65 := NB167_165.out; have hnc65 := NB165_167.out; have hnb66 := NB167_166.out; have hnc66 := NB166_167.out; have hz67 := bc3_ BK167.out; go_wp2; refine bodyPost_ret (results_ctt rfl _ _ gb167 135 #[.int .i64 t171, .int .i64 t174, .int .i64 (wrap64 (a1_0 + t177))] (0, 0) _ rfl (by (with_reducible repeat (first | refine blk_drewN ?_ _ | refine blk_drew ?_ | refine blk_alloc ?_ _)); refine blk_put (cs := #[.int .i64 t171, .int .i64 t174, .int .i64 0]) ?_ 2 _ rfl; (with_reducible repeat (first | refine blk_drewN ?_ _ | refine blk_drew ?_ | refine blk_alloc ?_ _)); refine blk_put (cs := #[.int .i64 t171, .int .i64 0, .int .i64 0]) ?_ 1 _ rfl; (with_reducible repeat (first | refine blk_drewN ?_ _ | refine blk_drew ?_ | refine blk_alloc ?_ _)); refine blk_put (cs := #[.int .i64 0, .int .i64 0, .int .i64 0]) ?_ 0 _ rfl; (with_reducible repeat (first | refine blk_drewN ?_ _ | refine blk_drew ?_ | refine blk_alloc ?_ _)); exact BK167.out) Try.underlying135 rfl (by kernel_rfl)) rfl ?_; exact ⟨Bb_4, hb_⟩
       ·replace c60 := Bool.eq_false_iff.mpr c60
        subst c60; rw [if_neg (show ¬ (false = true) by decide)] at H; simp only [Option.some.injEq, Prod.mk.injEq] at H; obtain ⟨rfl, rfl, rfl, rfl, rfl⟩ := H; have hnb68 := NB167_165.out; have hnc68 := NB165_167.out; have hnb69 := NB167_166.out; have hnc69 := NB166_167.out; have hnb70 := NB167_180.out; have hnc70 := NB180_167.out; have hz71 := bc3_ BK167.out; go_wp2; refine bodyPost_ret (results_ctt rfl _ _ gb167 135 #[.int .i64 0, .int .i64 0, .int .i64 0] (0, 0) _ rfl Bb_1 Try.underlying135 rfl (by kernel_rfl)) rfl ?_; exact ⟨Bb_4, hb_⟩
      ·replace c47 := Bool.eq_false_iff.mpr c47
       subst c47; rw [if_neg (show ¬ (false = true) by decide)] at H; simp only [Option.some.injEq, Prod.mk.injEq] at H; obtain ⟨rfl, rfl, rfl, rfl, rfl⟩ := H; have hnb72 := NB167_165.out; have hnc72 := NB165_167.out; have hnb73 := NB167_166.out; have hnc73 := NB166_167.out; have hnb74 := NB167_180.out; have hnc74 := NB180_167.out; have hz75 := bc3_ BK167.out; go_wp2; refine bodyPost_ret (results_ctt rfl _ _ gb167 135 #[.int .i64 0, .int .i64 0, .int .i64 0] (0, 0) _ rfl (by (with_reducible repeat (first | refine blk_drewN ?_ _ | refine blk_drew ?_ | refine blk_alloc ?_ _)); refine blk_put (cs := #[.int .i64 0, .int .i64 0, .int .i64 0]) ?_ 2 _ rfl; (with_reducible repeat (first | refine blk_drewN ?_ _ | refine blk_drew ?_ | refine blk_alloc ?_ _)); refine blk_put (cs := #[.int .i64 0, .int .i64 0, .int .i64 0]) ?_ 1 _ rfl; (with_reducible repeat (first | refine blk_drewN ?_ _ | refine blk_drew ?_ | refine blk_alloc ?_ _)); refine blk_put (cs := #[.int .i64 0, .int .i64 0, .int .i64 0]) ?_ 0 _ rfl; (with_reducible repeat (first | refine blk_drewN ?_ _ | refine blk_drew ?_ | refine blk_alloc ?_ _)); refine blk_far ?_ NB167_180.out _; (with_reducible repeat (first | refine blk_drewN ?_ _ | refine blk_drew ?_ | refine blk_alloc ?_ _)); refine blk_far ?_ NB167_180.out _; (with_reducible repeat (first | refine blk_drewN ?_ _ | refine blk_drew ?_ | refine blk_alloc ?_ _)); refine blk_far ?_ NB167_180.out _; (with_reducible repeat (first | refine blk_drewN ?_ _ | refine blk_drew ?_ | refine blk_alloc ?_ _)); exact BK167.out) Try.underlying135 rfl (by kernel_rfl)) rfl ?_; exact ⟨Bb_4, hb_⟩
     ·replace c36 := Bool.eq_false_iff.mpr c36
      subst c36; rw [if_neg (show ¬ (false = true) by decide)] at H; simp only [Option.some.injEq, Prod.mk.injEq] at H; obtain ⟨rfl, rfl, rfl, rfl, rfl⟩ := H; have hnb76 := NB167_165.out; have hnc76 := NB165_167.out; have hnb77 := NB167_166.out; have hnc77 := NB166_167.out; have hz78 := bc3_ BK167.out; go_wp2; refine bodyPost_ret (results_ctt rfl _ _ gb167 135 #[.int .i64 0, .int .i64 0, .int .i64 0] (0, 0) _ rfl Bb_1 Try.underlying135 rfl (by kernel_rfl)) rfl ?_; exact ⟨Bb_4, hb_⟩
    ·replace c30 := Bool.eq_false_iff.mpr c30
     subst c30; rw [if_neg (show ¬ (false = true) by decide)] at H; simp only [Option.some.injEq, Prod.mk.injEq] at H; obtain ⟨rfl, rfl, rfl, rfl, rfl⟩ := H; have hnb79 := NB167_165.out; have hnc79 := NB165_167.out; have hnb80 := NB167_166.out; have hnc80 := NB166_167.out; have hz81 := bc3_ BK167.out; go_wp2; refine bodyPost_ret (results_ctt rfl _ _ gb167 135 #[.int .i64 0, .int .i64 0, .int .i64 0] (0, 0) _ rfl Bb_1 Try.underlying135 rfl (by kernel_rfl)) rfl ?_; exact ⟨Bb_4, hb_⟩
end Go.Proofs.Ytbjambmdononiaa.PFnExactPictureParts
