-- functions and their walks: written by a program of this claim's
import Derived.Test.YtjmhhgnknjfnlaaProg
import Derived.Test.YtjmhhgnknjfnlaaVFnEventsTold
import Derived.Test.YtjmhhgnknjfnlaaZFnEventsToldy0
import Derived.Test.YtjmhhgnknjfnlaaZFnEventsToldy1
namespace Go.Proofs.Ytjmhhgnknjfnlaa.PFnEventsTold
open Go.RowKit Go.Proofs.YtjmhhgnknjfnlaaW.PrintWords Go.Proofs.YtjmhhgnknjfnlaaW.PrintLast Go.Proofs.YtjmhhgnknjfnlaaW.PrintMore
attribute [local go_sem] max2_int min2_int max_two min_two max_three min_three max_four min_four
set_option linter.unusedVariables false
set_option linter.unusedSimpArgs false
theorem Bc_0 {P : Prop} (h : P := by (with_reducible repeat (first | apply Kd.R_alloc | apply Kd.R_drewN | apply Kd.R_drew)); exact HO_4.out) : P := h
theorem Bc_1 {P : Prop} (h : P := by first | rfl | (simp; done) | (simp [*]; done)) : P := h
theorem Bc_2 {P : Prop} (h : P := by first | rfl | (simp [errW_none, errW_some] <;> rfl) | (simp [*, errW_none, errW_some] <;> rfl)) : P := h
theorem Bc_3 {P : Prop} (h : P := by first | (with_reducible assumption) | assumption) : P := h
theorem Bc_4 {P : Prop} (h : P := by (with_reducible repeat (first | refine blk_drewN ?_ _ | refine blk_drew ?_ | refine blk_alloc ?_ _)); exact BK201.out) : P := h
theorem Bc_5 {P : Prop} (h : P := by (with_reducible repeat (first | apply Kd.R_alloc | apply Kd.R_drewN | apply Kd.R_drew)); exact HO_22.out) : P := h
theorem Bc_6 {P : Prop} (h : P := by have := HK1.out; have := HJ7.out; have := HJ15.out; have := HJ20.out; omega) : P := h
theorem Bc_7 {P : Prop} (h : P := by have := HK1.out; first | omega | exact Nat.le_refl _) : P := h
theorem Bc_8 {P : Prop} (h : P := by have := HK1.out; have := HJ7.out; have := HJ15.out; first | omega | exact Nat.le_refl _) : P := h
mutual
def impl_EventText.l0 : Nat → ByteArray → Int → List Int → Int → Int → Option (ByteArray × Bool)
 | 0, _, _, _, _, _ => none
 | k + 1, x4, x5, x22, x23, x24 => if x24 < x23 then (if 0 ≤ x24 then (if x24 < (x22.length : Int) then (if x24 ≥ x5 then (if (rd x22 x24) = 0 then ((impl_within.f (rd x22 x24) 0 1000000000).bind fun t208 => (impl_EventText.j1 k x4 x5 x24 (rd x22 x24) x22 x23 x24 (!t208))) else (impl_EventText.j1 k x4 x5 x24 (rd x22 x24) x22 x23 x24 true)) else ((impl_within.f (rd x22 x24) 0 1000000000).bind fun t209 => (impl_EventText.j1 k x4 x5 x24 (rd x22 x24) x22 x23 x24 (!t209)))) else (none)) else (none)) else (some (x4, true))
def impl_EventText.j1 : Nat → ByteArray → Int → Int → Int → List Int → Int → Int → Bool → Option (ByteArray × Bool)
 | 0, _, _, _, _, _, _, _, _ => none
 | k + 1, x4, x5, x6, x7, x22, x23, x24, x40 => if x40 = true then (some ((⟨#[]⟩ : ByteArray), false)) else (if x6 < x5 then (if x4.size + 1 ≤ 9223372036854775807 then ((impl_Decimal.f k x7).bind fun t210 => (if (x4 ++ (⟨#[32]⟩ : ByteArray)).size + t210.size ≤ 9223372036854775807 then (impl_EventText.l0 k ((x4 ++ (⟨#[32]⟩ : ByteArray)) ++ t210) x5 x22 x23 (wrap64 (x24 + 1))) else (none))) else (none)) else (impl_EventText.l0 k x4 x5 x22 x23 (wrap64 (x24 + 1))))
end
def impl_EventText.f (k : Nat) (a0_0 : Int) (a0_1 : Int) (a0_2 : Int) (a0_3 : Int) : Option (ByteArray × Bool) := (impl_wordOf.f a0_0).bind fun bt202 => (if bt202.1.toList = ([] : List UInt8) then (some ((⟨#[]⟩ : ByteArray), false)) else ((some (([a0_1, a0_2, a0_3] : List Int) : List Int)).bind fun y204 => (impl_EventText.l0 k bt202.1 bt202.2 y204 (y204.length : Int) 0)))
theorem impl_EventText.mono_l : ∀ k, (∀ y0 y1 y2 y3 y4, LeO (impl_EventText.l0 k y0 y1 y2 y3 y4) (impl_EventText.l0 (k + 1) y0 y1 y2 y3 y4)) ∧ (∀ y0 y1 y2 y3 y4 y5 y6 y7, LeO (impl_EventText.j1 k y0 y1 y2 y3 y4 y5 y6 y7) (impl_EventText.j1 (k + 1) y0 y1 y2 y3 y4 y5 y6 y7))
 | 0 => ⟨fun _ _ _ _ _ r h => by simp [impl_EventText.l0] at h, fun _ _ _ _ _ _ _ _ r h => by simp [impl_EventText.j1] at h⟩
 | k + 1 => by
  obtain ⟨ih0, ih1⟩ := impl_EventText.mono_l k; refine ⟨?_, ?_⟩
  ·intro y0 y1 y2 y3 y4
   unfold impl_EventText.l0
   repeat' first
   | (with_reducible exact ih0 _ _ _ _ _)
   | (with_reducible exact ih1 _ _ _ _ _ _ _ _)
   | (with_reducible exact impl_Decimal.mono _ _)
   | (with_reducible exact LeO.refl _)
   | (with_reducible exact LeO.none _)
   | (with_reducible refine LeO.ite ?_ ?_)
   | (with_reducible refine LeO.bind ?_ (fun _ => ?_))
   | exact ih0 _ _ _ _ _
   | exact ih1 _ _ _ _ _ _ _ _
   | exact impl_Decimal.mono _ _
   | exact LeO.none _
   | refine LeO.ite ?_ ?_
   | refine LeO.bind ?_ (fun _ => ?_)
  ·intro y0 y1 y2 y3 y4 y5 y6 y7
   unfold impl_EventText.j1
   repeat' first
   | (with_reducible exact ih0 _ _ _ _ _)
   | (with_reducible exact ih1 _ _ _ _ _ _ _ _)
   | (with_reducible exact impl_Decimal.mono _ _)
   | (with_reducible exact LeO.refl _)
   | (with_reducible exact LeO.none _)
   | (with_reducible refine LeO.ite ?_ ?_)
   | (with_reducible refine LeO.bind ?_ (fun _ => ?_))
   | exact ih0 _ _ _ _ _
   | exact ih1 _ _ _ _ _ _ _ _
   | exact impl_Decimal.mono _ _
   | exact LeO.none _
   | refine LeO.ite ?_ ?_
   | refine LeO.bind ?_ (fun _ => ?_)
theorem impl_EventText.mono : ∀ a0 a1 a2 a3 k, LeO (impl_EventText.f k a0 a1 a2 a3) (impl_EventText.f (k + 1) a0 a1 a2 a3) := by
 intro a0 a1 a2 a3 k; obtain ⟨ih0, ih1⟩ := impl_EventText.mono_l k; unfold impl_EventText.f
 repeat' first
   | (with_reducible exact ih0 _ _ _ _ _)
   | (with_reducible exact ih1 _ _ _ _ _ _ _ _)
   | (with_reducible exact impl_Decimal.mono _ _)
   | (with_reducible exact LeO.refl _)
   | (with_reducible exact LeO.none _)
   | (with_reducible refine LeO.ite ?_ ?_)
   | (with_reducible refine LeO.bind ?_ (fun _ => ?_))
   | exact ih0 _ _ _ _ _
   | exact ih1 _ _ _ _ _ _ _ _
   | exact impl_Decimal.mono _ _
   | exact LeO.none _
   | refine LeO.ite ?_ ?_
   | refine LeO.bind ?_ (fun _ => ?_)
set_option maxHeartbeats 8000000 in
set_option maxRecDepth 100000 in
theorem impl_EventText.calls (k : Nat) (a0_0 : Int) (a0_1 : Int) (a0_2 : Int) (a0_3 : Int) (r1 : ByteArray) (r2 : Bool) (w : World) (h : impl_EventText.f k a0_0 a0_1 a0_2 a0_3 = some (r1, r2)) :
  Calls Try.prog 16 #[.agg #[.int .i64 a0_0, .int .i64 a0_1, .int .i64 a0_2, .int .i64 a0_3]] w fun e w' => e = .returned (.tuple #[.string r1, .bool r2]) ∧ Below w.heap.size w w' := by
 have hu29 := Try.underlying29; have HB := Aside0.mk (Below.refl w.heap.size w); have H : ((impl_wordOf.f a0_0).bind fun bt202 => (if bt202.1.toList = ([] : List UInt8) then (some ((⟨#[]⟩ : ByteArray), false)) else ((some (([a0_1, a0_2, a0_3] : List Int) : List Int)).bind fun y204 => (impl_EventText.l0 k bt202.1 bt202.2 y204 (y204.length : Int) 0)))) = some (r1, r2) := h; clear h; replace H := Option.bind_eq_some_iff.mp H; obtain ⟨⟨t202, t203⟩, A20, H⟩ := H; try dsimp only at H
 have A2 := Aside0.mk A20; clear A20; have HC3 := Aside0.mk H; clear H; go_enter Try.func16, Try.ntmps16; go_upto_if 15 with (first | ((with_reducible refine gate_dst (N := 1) rfl ?_); refine bx_ (N := 1) (cs := #[.int .i64 a0_0, .int .i64 a0_1, .int .i64 a0_2, .int .i64 a0_3]) (t := 29) ?_; intro gb201 hg w4 hbox hb; have BK201 := Aside0.mk (hbox); have GW201 := gw_ hg hb_; have GE201 := gw_ hg hb_; replace HB := Aside0.mk (below_step hb_ hb); clear hb hbox hg; have hz5 := bc4_ BK201.out) | ((with_reducible refine gate_callee (f := 70) rfl ?_); refine gA_ (some 11) Try.func70 (impl_wordOf.calls _ _ _ _ A2.out) ?_; rintro e w' ⟨rfl, ⟨nd, rfl⟩⟩; refine ⟨_, rfl, ?_⟩))
 (try simp only [Act.put, List.setIfInBounds_toArray, List.set_cons_zero, List.set_cons_succ]); have H := HC3.out; clear HC3; by_cases c6 : t202.toList = ([] : List UInt8)
 ·rw [if_pos c6] at H
  have c6b0 : (t202.toList == ([] : List UInt8)) = true := beq_iff_eq.mpr c6; have c6b1 : (t202.toList != ([] : List UInt8)) = false := bne_eq_false_iff_eq.mpr c6; clear c6; (try (have c6bE : (t202).toList.isEmpty = true := by simpa using c6b0)); (first | rw [c6b0] | (simp only [i64_w, i32_w]; rw [c6b0]) | rw [c6bE] | skip); simp only [Option.some.injEq, Prod.mk.injEq] at H; obtain ⟨rfl, rfl⟩ := H; go_wp2; go_ret2
  exact ⟨Bc_2, hb_⟩
 ·rw [if_neg c6] at H
  have c6b0 : (t202.toList == ([] : List UInt8)) = false := beq_eq_false_iff_ne.mpr c6; have c6b1 : (t202.toList != ([] : List UInt8)) = true := bne_iff_ne.mpr c6; (try (have c6bE : (t202).toList.isEmpty = false := by simpa using c6b0)); (first | rw [c6b0] | (simp only [i64_w, i32_w]; rw [c6b0]) | rw [c6bE] | skip); obtain ⟨y204, hy204⟩ : ∃ y_ : List Int, y_ = (([a0_1, a0_2, a0_3] : List Int)) := ⟨_, rfl⟩; replace H : (impl_EventText.l0 k t202 t203 y204 (y204.length : Int) 0) = some (r1, r2) := by first | (rw [hy204]; with_reducible exact H) | (have H2_ := (Option.bind_some _ _).symm.trans H; rw [hy204]; with_reducible exact H2_) | (have H2_ := (Option.bind_some _ _).symm.trans H; with_reducible exact H2_) | with_reducible exact H | (rw [hy204]; exact H) | exact H
  have Ny204 := Aside0.mk hy204; clear hy204; have H' := Aside0.mk H; clear H; have hz7 := bc4_ BK201.out; go_wp2_with (first | ((with_reducible refine gate_dst (N := 22) rfl ?_); refine Kd.R_lit (Kd.int .i64) _ 3 ?hg (N := 22) ?hd (xs := ([a0_1, a0_2, a0_3] : List Int)) (inner := [.int .i64 a0_1, .int .i64 a0_2, .int .i64 a0_3]) (ok := fun _ => True) (okp := fun _ => True) ?hr ?hp (fun _ hk => hk) trivial (Below.refl _ _) (Nat.le_refl _) (by simp) ?_; (case hd => rfl); (case hg => rfl); (case hr => first | (go_simp; done) | (go_simp; rfl)); (case hp => exact (Reps.one (show Kd.M (Kd.int .i64) _ _ _ a0_1 [.int .i64 a0_1] from rfl) (Reps.one (show Kd.M (Kd.int .i64) _ _ _ a0_2 [.int .i64 a0_2] from rfl) (Reps.one (show Kd.M (Kd.int .i64) _ _ _ a0_3 [.int .i64 a0_3] from rfl) (Reps.none _ _))))); intro v205 w8 ho9 hb hg_ hnew_; clear hg_ hnew_; (first | rw [← Ny204.out] at ho9 | (simp only [Int.reduceToNat] at ho9; rw [← Ny204.out] at ho9)); have HO206 := Aside0.mk (Kd.R_lower ho9 (below_size hb_)); replace BK201 := bb_ BK201 hb; replace HB := Aside0.mk (below_step hb_ hb); clear hb ho9; obtain ⟨Ao10, co10, eo10⟩ := Kd.R_slice HO206.out; subst eo10)); go_loopg [4, 24] k (fun kq v4 v24 w' => ∃ (x4_1 : ByteArray) (x24_1 : Int), v4 = .string x4_1 ∧ v24 = .int .i64 x24_1 ∧ Aside0 (impl_EventText.l0 kq x4_1 t203 y204 (y204.length : Int) x24_1 = some (r1, r2)) ∧ Aside0 (kq ≤ k) ∧ Aside0 (Kd.R (Kd.int .i64) 3 w' w.heap.size (fun _ => True) (.slice Ao10 y204.length co10) y204) ∧ Aside0 (w'.heap[gb201]? = some (.cells #[.int .i64 a0_0, .int .i64 a0_1, .int .i64 a0_2, .int .i64 a0_3] 29 (0, 0))) ∧ Aside0 (Below w.heap.size w w'))
  case atStart => exact ⟨(t202), (0), Bc_1, Bc_1, H', ⟨Nat.le_refl _⟩, ⟨(by (with_reducible repeat (first | apply Kd.R_alloc | apply Kd.R_drewN | apply Kd.R_drew)); exact HO206.out)⟩, ⟨Bc_4⟩, ⟨hb_⟩⟩
  case round =>
   clear H'; try clear c1; try clear p2; try clear c6; try clear c6b0; try clear c6b1; try clear c7; try clear hz5; try clear hz7
   obtain ⟨x4_1, x24_1, rfl, rfl, HA, HK1, HO_22, BK201, HB⟩ := hrel; cases gk with
   | zero => exact absurd HA.out (by simp [impl_EventText.l0])
   | succ k1 =>
    have H := HA.out; clear HA; simp only [impl_EventText.l0] at H; by_cases c11 : x24_1 < (y204.length : Int)
    ·rw [if_pos c11] at H
     have c11b0 : decide (x24_1 < (y204.length : Int)) = true := decide_eq_true c11; clear c11; by_cases c12 : 0 ≤ x24_1
     ·rw [if_pos c12] at H
      have c12b0 : decide (0 ≤ x24_1) = true := decide_eq_true c12; clear c12; by_cases c13 : x24_1 < (y204.length : Int)
      ·rw [if_pos c13] at H
       have c13b0 : decide (x24_1 < (y204.length : Int)) = true := decide_eq_true c13; clear c13; have HC14 := Aside0.mk H; clear H; have p207 : 0 ≤ (x24_1 : Int) := of_decide_eq_true Bc_3; have q207 : x24_1 < (y204.length : Int) := of_decide_eq_true Bc_3; obtain ⟨ad207, e207, hx207_0⟩ := Kd.at_int (Kd.R_reads' HO_22.out).2.2 x24_1 p207 q207; cases e207; replace p207 := eq_true p207; replace q207 := eq_true q207; go_upto_region 7 with (fail)
       go_cut [40] (fun v40 wc => ∃ (kq : Nat) (x40_13 : Bool), v40 = .bool x40_13 ∧ Aside0 (impl_EventText.j1 kq x4_1 t203 x24_1 (rd y204 x24_1) y204 (y204.length : Int) x24_1 x40_13 = some (r1, r2)) ∧ Aside0 (kq ≤ k1) ∧ Aside0 (Kd.R (Kd.int .i64) 3 wc w.heap.size (fun _ => True) (.slice (some ad207) y204.length co10) y204) ∧ Aside0 (wc.heap[gb201]? = some (.cells #[.int .i64 a0_0, .int .i64 a0_1, .int .i64 a0_2, .int .i64 a0_3] 29 (0, 0))) ∧ Aside0 (Below w.heap.size w wc))
       case first =>
        have H := HC14.out; clear HC14; by_cases c15 : x24_1 ≥ t203
        ·rw [if_pos c15] at H
         have c15b0 : decide (t203 ≤ x24_1) = true := decide_eq_true c15; clear c15; (first | rw [c15b0] | (simp only [i64_w, i32_w]; rw [c15b0]) | skip); by_cases c16 : (rd y204 x24_1) = 0
         ·rw [if_pos c16] at H
          have c16b0 : ((rd y204 x24_1) == 0) = true := beq_iff_eq.mpr c16; have c16b1 : ((rd y204 x24_1) != 0) = false := bne_eq_false_iff_eq.mpr c16; clear c16; replace H := Option.bind_eq_some_iff.mp H; obtain ⟨t208, A170, H⟩ := H; try dsimp only at H
          have A17 := Aside0.mk A170; clear A170; have H' := Aside0.mk H; clear H; go_wp2_with (first | (go_at_call 71; (with_reducible refine (impl_within.calls (rd y204 x24_1) 0 1000000000 t208 _ A17.out).mono ?_); rintro e w' ⟨rfl, ⟨nd, rfl⟩⟩)); go_meet
          case rel => exact ⟨_, (!t208), Bc_1, H', ⟨Bc_7⟩, ⟨Bc_5⟩, ⟨Bc_4⟩, ⟨hb_⟩⟩
         ·rw [if_neg c16] at H
          have c16b0 : ((rd y204 x24_1) == 0) = false := beq_eq_false_iff_ne.mpr c16; have c16b1 : ((rd y204 x24_1) != 0) = true := bne_iff_ne.mpr c16; have H' := Aside0.mk H; clear H; go_wp2; go_meet
          case rel => exact ⟨_, (true), Bc_1, H', ⟨Bc_7⟩, ⟨Bc_5⟩, ⟨Bc_4⟩, ⟨hb_⟩⟩
        ·rw [if_neg c15] at H
         have c15b0 : decide (t203 ≤ x24_1) = false := decide_eq_false c15; clear c15; (first | rw [c15b0] | (simp only [i64_w, i32_w]; rw [c15b0]) | skip); replace H := Option.bind_eq_some_iff.mp H; obtain ⟨t209, A180, H⟩ := H; try dsimp only at H
         have A18 := Aside0.mk A180; clear A180; have H' := Aside0.mk H; clear H; go_wp2_with (first | (go_at_call 71; (with_reducible refine (impl_within.calls (rd y204 x24_1) 0 1000000000 t209 _ A18.out).mono ?_); rintro e w' ⟨rfl, ⟨nd, rfl⟩⟩)); go_meet
         case rel => exact ⟨_, (!t209), Bc_1, H', ⟨Bc_7⟩, ⟨Bc_5⟩, ⟨Bc_4⟩, ⟨hb_⟩⟩
       case rest =>
        clear HC14; try clear c1; try clear p2; try clear q2; try clear hx2; try clear c6; try clear c6b0; try clear c6b1; try clear c7; try clear c11; try clear c11b0; try clear c12; try clear c12b0; try clear c13; try clear c13b0; try clear c15; try clear c15b0; try clear c16; try clear c16b0; try clear c16b1; try clear hz5; try clear hz7; try clear hx207_0; try clear p207; try clear q207
        obtain ⟨kq, x40_13, rfl, HA, HJ13, HO_22, BK201, HB⟩ := hcut; cases kq with
        | zero => exact absurd HA.out (by simp [impl_EventText.j1])
        | succ kj13 =>
         have H := HA.out; clear HA; simp only [impl_EventText.j1] at H; by_cases c19 : x40_13 = true
         ·subst c19
          rw [if_pos rfl] at H; simp only [Option.some.injEq, Prod.mk.injEq] at H; obtain ⟨rfl, rfl⟩ := H; go_wp2; go_ret2
          exact ⟨Bc_2, hb_⟩
         ·replace c19 := Bool.eq_false_iff.mpr c19
          subst c19; rw [if_neg (show ¬ (false = true) by decide)] at H; by_cases c20 : x24_1 < t203
          ·rw [if_pos c20] at H
           have c20b0 : decide (x24_1 < t203) = true := decide_eq_true c20; clear c20; by_cases c21 : x4_1.size + 1 ≤ 9223372036854775807
           ·rw [if_pos c21] at H
            have c21b0 := eq_true c21; have c21b1 : decide (x4_1.size + 1 ≤ 9223372036854775807) = true := decide_eq_true c21; try have c21b2 : (9223372036854775807 < x4_1.size + 1) = False := eq_false (Nat.not_lt.2 c21)
            replace H := Option.bind_eq_some_iff.mp H; obtain ⟨t210, A220, H⟩ := H; try dsimp only at H
            have A22 := Aside0.mk A220; clear A220; by_cases c23 : (x4_1 ++ (⟨#[32]⟩ : ByteArray)).size + t210.size ≤ 9223372036854775807
            ·rw [if_pos c23] at H
             have c23b0 := eq_true c23; have c23b1 : decide ((x4_1 ++ (⟨#[32]⟩ : ByteArray)).size + t210.size ≤ 9223372036854775807) = true := decide_eq_true c23; try have c23b2 : (9223372036854775807 < (x4_1 ++ (⟨#[32]⟩ : ByteArray)).size + t210.size) = False := eq_false (Nat.not_lt.2 c23)
             try have c23b3 : (9223372036854775807 < x4_1.size + 1 + t210.size) = False := eq_false (Nat.not_lt.2 (by have h_ := c23; simp only [ByteArray.size_append] at h_; exact h_))
             have H' := Aside0.mk H; clear H; go_wp2_with (first | ((with_reducible refine gate_callee (f := 72) rfl ?_); refine gA_ (some 47) Try.func72 (impl_Decimal.calls _ _ _ _ A22.out) ?_; rintro e w24 ⟨rfl, hb⟩; refine ⟨_, rfl, ?_⟩; replace HO_22 := Aside0.mk (Kd.R_below Bc_5 hb); replace BK201 := bb_ BK201 hb; replace HB := Aside0.mk (below_step hb_ hb); (try clear hb); (try clear hb2); (try clear hk); (try clear hi))); go_roundg kj13
             case measure => have := HK1.out; have := HJ13.out; omega
             case rel => exact ⟨((x4_1 ++ (⟨#[32]⟩ : ByteArray)) ++ t210), (wrap64 (x24_1 + 1)), Bc_1, Bc_1, H', ⟨(by have := HK1.out; have := HJ13.out; omega)⟩, ⟨Bc_5⟩, ⟨Bc_4⟩, ⟨hb_⟩⟩
            ·rw [if_neg c23] at H
             exact absurd H (by simp)
           ·rw [if_neg c21] at H
            exact absurd H (by simp)
          ·rw [if_neg c20] at H
           have c20b0 : decide (x24_1 < t203) = false := decide_eq_false c20; clear c20; have H' := Aside0.mk H; clear H; go_wp2; go_roundg kj13
           case measure => have := HK1.out; have := HJ13.out; omega
           case rel => exact ⟨(x4_1), (wrap64 (x24_1 + 1)), Bc_1, Bc_1, H', ⟨(by have := HK1.out; have := HJ13.out; omega)⟩, ⟨Bc_5⟩, ⟨Bc_4⟩, ⟨hb_⟩⟩
      ·rw [if_neg c13] at H
       exact absurd H (by simp)
     ·rw [if_neg c12] at H
      exact absurd H (by simp)
    ·rw [if_neg c11] at H
     have c11b0 : decide (x24_1 < (y204.length : Int)) = false := decide_eq_false c11; clear c11; simp only [Option.some.injEq, Prod.mk.injEq] at H; obtain ⟨rfl, rfl⟩ := H; go_wp2; go_ret2
     exact ⟨Bc_2, hb_⟩
end Go.Proofs.Ytjmhhgnknjfnlaa.PFnEventsTold
namespace Go.Proofs.Ytjmhhgnknjfnlaa.PFnEventsTold
open Go.RowKit Go.Proofs.YtjmhhgnknjfnlaaW.PrintWords Go.Proofs.YtjmhhgnknjfnlaaW.PrintLast Go.Proofs.YtjmhhgnknjfnlaaW.PrintMore
attribute [local go_sem] max2_int min2_int max_two min_two max_three min_three max_four min_four
set_option linter.unusedVariables false
set_option linter.unusedSimpArgs false
mutual
def impl_PartsOf.l0 : Nat → ByteArray → List ByteArray → Int → Int → Option (List ByteArray × Bool)
 | 0, _, _, _, _ => none
 | k + 1, x0, x4, x5, x6 => if x6 ≤ (x0.size : Int) then (if x6 < (x0.size : Int) then (if 0 ≤ x6 then ((impl_within.f (wrap64 (bt x0 x6)) 32 126).bind fun t220 => (impl_PartsOf.j1 k x0 x4 x5 x6 (!t220))) else (none)) else (impl_PartsOf.j1 k x0 x4 x5 x6 false)) else (if (x4.length : Int) > 12 then (some ((([] : List ByteArray)), false)) else (some (x4, true)))
def impl_PartsOf.j1 : Nat → ByteArray → List ByteArray → Int → Int → Bool → Option (List ByteArray × Bool)
 | 0, _, _, _, _, _ => none
 | k + 1, x0, x4, x5, x6, x30 => if x30 = true then (some ((([] : List ByteArray)), false)) else (if x6 = (x0.size : Int) then (impl_PartsOf.j2 k x0 x4 x5 x6 true) else (if 0 ≤ x6 then (if x6 < (x0.size : Int) then (impl_PartsOf.j2 k x0 x4 x5 x6 ((bt x0 x6) == 32)) else (none)) else (none)))
def impl_PartsOf.j2 : Nat → ByteArray → List ByteArray → Int → Int → Bool → Option (List ByteArray × Bool)
 | 0, _, _, _, _, _ => none
 | k + 1, x0, x4, x5, x6, x7 => if x7 = true then (impl_PartsOf.j3 k x0 x4 x5 x6 x7 false) else (impl_PartsOf.j3 k x0 x4 x5 x6 x7 (decide (x5 < 0)))
def impl_PartsOf.j3 : Nat → ByteArray → List ByteArray → Int → Int → Bool → Bool → Option (List ByteArray × Bool)
 | 0, _, _, _, _, _, _ => none
 | k + 1, x0, x4, x5, x6, x7, x47 => if x47 = true then (if x7 = true then (if x6 ≥ 0 then (if 0 ≤ x6 then (if x6 ≤ x6 then (if x6 ≤ (x0.size : Int) then (if x4.length < 8796093022208 then (impl_PartsOf.l0 k x0 (x4 ++ [ByteArray.empty]) (-1) (wrap64 (x6 + 1))) else (none)) else (none)) else (none)) else (none)) else (impl_PartsOf.l0 k x0 x4 x6 (wrap64 (x6 + 1)))) else (impl_PartsOf.l0 k x0 x4 x6 (wrap64 (x6 + 1)))) else (if x7 = true then (if x5 ≥ 0 then (if 0 ≤ x5 then (if x5 ≤ x6 then (if x6 ≤ (x0.size : Int) then (if x4.length < 8796093022208 then (impl_PartsOf.l0 k x0 (x4 ++ [x0.extract (x5 : Int).toNat (x6 : Int).toNat]) (-1) (wrap64 (x6 + 1))) else (none)) else (none)) else (none)) else (none)) else (impl_PartsOf.l0 k x0 x4 x5 (wrap64 (x6 + 1)))) else (impl_PartsOf.l0 k x0 x4 x5 (wrap64 (x6 + 1))))
end
def impl_PartsOf.f (k : Nat) (a0 : ByteArray) : Option (List ByteArray × Bool) := if (a0.size : Int) > 600 then (some ((([] : List ByteArray)), false)) else (impl_PartsOf.l0 k a0 (([] : List ByteArray)) (-1) 0)
theorem impl_PartsOf.mono_l : ∀ k, (∀ y0 y1 y2 y3, LeO (impl_PartsOf.l0 k y0 y1 y2 y3) (impl_PartsOf.l0 (k + 1) y0 y1 y2 y3)) ∧ (∀ y0 y1 y2 y3 y4, LeO (impl_PartsOf.j1 k y0 y1 y2 y3 y4) (impl_PartsOf.j1 (k + 1) y0 y1 y2 y3 y4)) ∧ (∀ y0 y1 y2 y3 y4, LeO (impl_PartsOf.j2 k y0 y1 y2 y3 y4) (impl_PartsOf.j2 (k + 1) y0 y1 y2 y3 y4)) ∧ (∀ y0 y1 y2 y3 y4 y5, LeO (impl_PartsOf.j3 k y0 y1 y2 y3 y4 y5) (impl_PartsOf.j3 (k + 1) y0 y1 y2 y3 y4 y5))
 | 0 => ⟨fun _ _ _ _ r h => by simp [impl_PartsOf.l0] at h, fun _ _ _ _ _ r h => by simp [impl_PartsOf.j1] at h, fun _ _ _ _ _ r h => by simp [impl_PartsOf.j2] at h, fun _ _ _ _ _ _ r h => by simp [impl_PartsOf.j3] at h⟩
 | k + 1 => by
  obtain ⟨ih0, ih1, ih2, ih3⟩ := impl_PartsOf.mono_l k; refine ⟨?_, ?_, ?_, ?_⟩
  ·intro y0 y1 y2 y3
   unfold impl_PartsOf.l0
   repeat' first
   | (with_reducible exact ih0 _ _ _ _)
   | (with_reducible exact ih1 _ _ _ _ _)
   | (with_reducible exact ih2 _ _ _ _ _)
   | (with_reducible exact ih3 _ _ _ _ _ _)
   | (with_reducible exact LeO.refl _)
   | (with_reducible exact LeO.none _)
   | (with_reducible refine LeO.ite ?_ ?_)
   | (with_reducible refine LeO.bind ?_ (fun _ => ?_))
   | exact ih0 _ _ _ _
   | exact ih1 _ _ _ _ _
   | exact ih2 _ _ _ _ _
   | exact ih3 _ _ _ _ _ _
   | exact LeO.none _
   | refine LeO.ite ?_ ?_
   | refine LeO.bind ?_ (fun _ => ?_)
  ·intro y0 y1 y2 y3 y4
   unfold impl_PartsOf.j1
   repeat' first
   | (with_reducible exact ih0 _ _ _ _)
   | (with_reducible exact ih1 _ _ _ _ _)
   | (with_reducible exact ih2 _ _ _ _ _)
   | (with_reducible exact ih3 _ _ _ _ _ _)
   | (with_reducible exact LeO.refl _)
   | (with_reducible exact LeO.none _)
   | (with_reducible refine LeO.ite ?_ ?_)
   | (with_reducible refine LeO.bind ?_ (fun _ => ?_))
   | exact ih0 _ _ _ _
   | exact ih1 _ _ _ _ _
   | exact ih2 _ _ _ _ _
   | exact ih3 _ _ _ _ _ _
   | exact LeO.none _
   | refine LeO.ite ?_ ?_
   | refine LeO.bind ?_ (fun _ => ?_)
  ·intro y0 y1 y2 y3 y4
   unfold impl_PartsOf.j2
   repeat' first
   | (with_reducible exact ih0 _ _ _ _)
   | (with_reducible exact ih1 _ _ _ _ _)
   | (with_reducible exact ih2 _ _ _ _ _)
   | (with_reducible exact ih3 _ _ _ _ _ _)
   | (with_reducible exact LeO.refl _)
   | (with_reducible exact LeO.none _)
   | (with_reducible refine LeO.ite ?_ ?_)
   | (with_reducible refine LeO.bind ?_ (fun _ => ?_))
   | exact ih0 _ _ _ _
   | exact ih1 _ _ _ _ _
   | exact ih2 _ _ _ _ _
   | exact ih3 _ _ _ _ _ _
   | exact LeO.none _
   | refine LeO.ite ?_ ?_
   | refine LeO.bind ?_ (fun _ => ?_)
  ·intro y0 y1 y2 y3 y4 y5
   unfold impl_PartsOf.j3
   repeat' first
   | (with_reducible exact ih0 _ _ _ _)
   | (with_reducible exact ih1 _ _ _ _ _)
   | (with_reducible exact ih2 _ _ _ _ _)
   | (with_reducible exact ih3 _ _ _ _ _ _)
   | (with_reducible exact LeO.refl _)
   | (with_reducible exact LeO.none _)
   | (with_reducible refine LeO.ite ?_ ?_)
   | (with_reducible refine LeO.bind ?_ (fun _ => ?_))
   | exact ih0 _ _ _ _
   | exact ih1 _ _ _ _ _
   | exact ih2 _ _ _ _ _
   | exact ih3 _ _ _ _ _ _
   | exact LeO.none _
   | refine LeO.ite ?_ ?_
   | refine LeO.bind ?_ (fun _ => ?_)
theorem impl_PartsOf.mono : ∀ a0 k, LeO (impl_PartsOf.f k a0) (impl_PartsOf.f (k + 1) a0) := by
 intro a0 k; obtain ⟨ih0, ih1, ih2, ih3⟩ := impl_PartsOf.mono_l k; unfold impl_PartsOf.f
 repeat' first
   | (with_reducible exact ih0 _ _ _ _)
   | (with_reducible exact ih1 _ _ _ _ _)
   | (with_reducible exact ih2 _ _ _ _ _)
   | (with_reducible exact ih3 _ _ _ _ _ _)
   | (with_reducible exact LeO.refl _)
   | (with_reducible exact LeO.none _)
   | (with_reducible refine LeO.ite ?_ ?_)
   | (with_reducible refine LeO.bind ?_ (fun _ => ?_))
   | exact ih0 _ _ _ _
   | exact ih1 _ _ _ _ _
   | exact ih2 _ _ _ _ _
   | exact ih3 _ _ _ _ _ _
   | exact LeO.none _
   | refine LeO.ite ?_ ?_
   | refine LeO.bind ?_ (fun _ => ?_)
set_option maxHeartbeats 8000000 in
set_option maxRecDepth 100000 in
theorem impl_PartsOf.calls (k : Nat) (a0 : ByteArray) (r1 : List ByteArray) (r2 : Bool) (w : World) (h : impl_PartsOf.f k a0 = some (r1, r2)) :
  Calls Try.prog 73 #[.string a0] w fun e w' => ∃ v0_ : Value, e = .returned (.tuple #[v0_, .bool r2]) ∧ Kd.R Kd.string 9 w' w.heap.size (fun _ => True) v0_ r1 ∧ Below w.heap.size w w' := by
 have HB := Aside0.mk (Below.refl w.heap.size w); have H : (if (a0.size : Int) > 600 then (some ((([] : List ByteArray)), false)) else (impl_PartsOf.l0 k a0 (([] : List ByteArray)) (-1) 0)) = some (r1, r2) := h; clear h; by_cases c2 : (a0.size : Int) > 600
 ·rw [if_pos c2] at H
  have c2b0 : decide (600 < (a0.size : Int)) = true := decide_eq_true c2; have c2b1 : decide (600 < a0.size) = true := decide_eq_true (by omega); clear c2; obtain ⟨y211, hy211⟩ : ∃ y_ : List ByteArray, y_ = (([] : List ByteArray)) := ⟨_, rfl⟩; replace H : (some (y211, false)) = some (r1, r2) := by first | (rw [hy211]; with_reducible exact H) | (have H2_ := (Option.bind_some _ _).symm.trans H; rw [hy211]; with_reducible exact H2_) | (have H2_ := (Option.bind_some _ _).symm.trans H; with_reducible exact H2_) | with_reducible exact H | (rw [hy211]; exact H) | exact H
  have Ny211 := Aside0.mk hy211; clear hy211; simp only [Option.some.injEq, Prod.mk.injEq] at H; obtain ⟨rfl, rfl⟩ := H; go_enter Try.func73, Try.ntmps73; go_wp2_with (first | ((with_reducible refine gate_dst (N := 11) rfl ?_); refine Kd.R_lit Kd.string _ 9 ?hg (N := 11) ?hd (xs := ([] : List ByteArray)) (inner := []) (ok := fun _ => True) (okp := fun _ => True) ?hr ?hp (fun _ hk => hk) trivial (Below.refl _ _) (Nat.le_refl _) (by simp) ?_; (case hd => rfl); (case hg => rfl); (case hr => first | (go_simp; done) | (go_simp; rfl)); (case hp => exact (Reps.none _ _)); intro v212 w3 ho4 hb hg_ hnew_; clear hg_ hnew_; (first | rw [← Ny211.out] at ho4 | (simp only [Int.reduceToNat] at ho4; rw [← Ny211.out] at ho4)); have HO213 := Aside0.mk (Kd.R_lower ho4 (below_size hb_)); replace HB := Aside0.mk (below_step hb_ hb); clear hb ho4)); go_ret2
  exact ⟨_, Bc_2, (by (with_reducible repeat (first | apply Kd.R_alloc | apply Kd.R_drewN | apply Kd.R_drew)); exact HO213.out), hb_⟩
 ·rw [if_neg c2] at H
  have c2b0 : decide (600 < (a0.size : Int)) = false := decide_eq_false c2; have c2b1 : decide (600 < a0.size) = false := decide_eq_false (by omega); clear c2; obtain ⟨y214, hy214⟩ : ∃ y_ : List ByteArray, y_ = (([] : List ByteArray)) := ⟨_, rfl⟩; replace H : (impl_PartsOf.l0 k a0 y214 (-1) 0) = some (r1, r2) := by first | (rw [hy214]; with_reducible exact H) | (have H2_ := (Option.bind_some _ _).symm.trans H; rw [hy214]; with_reducible exact H2_) | (have H2_ := (Option.bind_some _ _).symm.trans H; with_reducible exact H2_) | with_reducible exact H | (rw [hy214]; exact H) | exact H
  have Ny214 := Aside0.mk hy214; clear hy214; have H' := Aside0.mk H; clear H; go_enter Try.func73, Try.ntmps73; go_wp2_with (first | ((with_reducible refine gate_dst (N := 12) rfl ?_); refine Kd.R_lit Kd.string _ 9 ?hg (N := 12) ?hd (xs := ([] : List ByteArray)) (inner := []) (ok := fun _ => True) (okp := fun _ => True) ?hr ?hp (fun _ hk => hk) trivial (Below.refl _ _) (Nat.le_refl _) (by simp) ?_; (case hd => rfl); (case hg => rfl); (case hr => first | (go_simp; done) | (go_simp; rfl)); (case hp => exact (Reps.none _ _)); intro v215 w5 ho6 hb hg_ hnew_; clear hg_ hnew_; (first | rw [← Ny214.out] at ho6 | (simp only [Int.reduceToNat] at ho6; rw [← Ny214.out] at ho6)); have HO216 := Aside0.mk (Kd.R_lower ho6 (below_size hb_)); replace HB := Aside0.mk (below_step hb_ hb); clear hb ho6)); go_loopg [4, 5, 6] k (fun kq v4 v5 v6 w' => ∃ (x4_1 : List ByteArray) (x5_1 : Int) (x6_1 : Int), v5 = .int .i64 x5_1 ∧ v6 = .int .i64 x6_1 ∧ Aside0 (impl_PartsOf.l0 kq a0 x4_1 x5_1 x6_1 = some (r1, r2)) ∧ Aside0 (kq ≤ k) ∧ Aside0 (Kd.R Kd.string 9 w' w.heap.size (fun _ => True) v4 x4_1) ∧ Aside0 (Below w.heap.size w w'))
  case atStart => exact ⟨(y214), ((-1)), (0), Bc_1, Bc_1, H', ⟨Nat.le_refl _⟩, ⟨(by (with_reducible repeat (first | apply Kd.R_alloc | apply Kd.R_drewN | apply Kd.R_drew)); exact HO216.out)⟩, ⟨hb_⟩⟩
  case round =>
   clear H'; try clear c2; try clear c2b0; try clear c2b1; try clear p2
   obtain ⟨x4_1, x5_1, x6_1, rfl, rfl, HA, HK1, HO_4, HB⟩ := hrel; cases gk with
   | zero => exact absurd HA.out (by simp [impl_PartsOf.l0])
   | succ k1 =>
    have H := HA.out; clear HA; simp only [impl_PartsOf.l0] at H; by_cases c7 : x6_1 ≤ (a0.size : Int)
    ·rw [if_pos c7] at H
     have c7b0 : decide (x6_1 ≤ (a0.size : Int)) = true := decide_eq_true c7; clear c7; have HC8 := Aside0.mk H; clear H; go_upto_region 8 with (fail)
     go_cut [30] (fun v30 wc => ∃ (kq : Nat) (x30_7 : Bool), v30 = .bool x30_7 ∧ Aside0 (impl_PartsOf.j1 kq a0 x4_1 x5_1 x6_1 x30_7 = some (r1, r2)) ∧ Aside0 (kq ≤ k1) ∧ Aside0 (Kd.R Kd.string 9 wc w.heap.size (fun _ => True) u4 x4_1) ∧ Aside0 (Below w.heap.size w wc))
     case first =>
      have H := HC8.out; clear HC8; by_cases c9 : x6_1 < (a0.size : Int)
      ·rw [if_pos c9] at H
       have c9b0 : decide (x6_1 < (a0.size : Int)) = true := decide_eq_true c9; clear c9; (first | rw [c9b0] | (simp only [i64_w, i32_w]; rw [c9b0]) | skip); by_cases c10 : 0 ≤ x6_1
       ·rw [if_pos c10] at H
        have c10b0 : decide (0 ≤ x6_1) = true := decide_eq_true c10; clear c10; replace H := Option.bind_eq_some_iff.mp H; obtain ⟨t220, A120, H⟩ := H; try dsimp only at H
        have A12 := Aside0.mk A120; clear A120; have H' := Aside0.mk H; clear H; have p11 : 0 ≤ (x6_1 : Int) := of_decide_eq_true Bc_3; have q11 : x6_1 < (a0.size : Int) := of_decide_eq_true Bc_3; have hx11 := bt_at a0 x6_1; replace p11 := eq_true p11; replace q11 := eq_true q11; go_wp2_with (first | (go_at_call 71; (with_reducible refine (impl_within.calls (wrap64 (bt a0 x6_1)) 32 126 t220 _ A12.out).mono ?_); rintro e w' ⟨rfl, ⟨nd, rfl⟩⟩)); go_meet
        case rel => exact ⟨_, (!t220), Bc_1, H', ⟨Bc_7⟩, ⟨Bc_0⟩, ⟨hb_⟩⟩
       ·rw [if_neg c10] at H
        exact absurd H (by simp)
      ·rw [if_neg c9] at H
       have c9b0 : decide (x6_1 < (a0.size : Int)) = false := decide_eq_false c9; clear c9; (first | rw [c9b0] | (simp only [i64_w, i32_w]; rw [c9b0]) | skip); have H' := Aside0.mk H; clear H; go_wp2; go_meet
       case rel => exact ⟨_, (false), Bc_1, H', ⟨Bc_7⟩, ⟨Bc_0⟩, ⟨hb_⟩⟩
     case rest =>
      clear HC8; try clear c1; try clear p1; try clear q1; try clear hx1; try clear c2; try clear c2b0; try clear c2b1; try clear p2; try clear p6; try clear c7; try clear c7b0; try clear c9; try clear c9b0; try clear c10; try clear c10b0; try clear p11; try clear q11; try clear hx11
      obtain ⟨kq, x30_7, rfl, HA, HJ7, HO_4, HB⟩ := hcut; cases kq with
      | zero => exact absurd HA.out (by simp [impl_PartsOf.j1])
      | succ kj7 =>
       have H := HA.out; clear HA; simp only [impl_PartsOf.j1] at H; by_cases c13 : x30_7 = true
       ·subst c13
        rw [if_pos rfl] at H; obtain ⟨y221, hy221⟩ : ∃ y_ : List ByteArray, y_ = (([] : List ByteArray)) := ⟨_, rfl⟩; replace H : (some (y221, false)) = some (r1, r2) := by first | (rw [hy221]; with_reducible exact H) | (have H2_ := (Option.bind_some _ _).symm.trans H; rw [hy221]; with_reducible exact H2_) | (have H2_ := (Option.bind_some _ _).symm.trans H; with_reducible exact H2_) | with_reducible exact H | (rw [hy221]; exact H) | exact H
        have Ny221 := Aside0.mk hy221; clear hy221; simp only [Option.some.injEq, Prod.mk.injEq] at H; obtain ⟨rfl, rfl⟩ := H; go_wp2_with (first | ((with_reducible refine gate_dst (N := 31) rfl ?_); refine Kd.R_lit Kd.string _ 9 ?hg (N := 31) ?hd (xs := ([] : List ByteArray)) (inner := []) (ok := fun _ => True) (okp := fun _ => True) ?hr ?hp (fun _ hk => hk) trivial (Below.refl _ _) (Nat.le_refl _) (by simp) ?_; (case hd => rfl); (case hg => rfl); (case hr => first | (go_simp; done) | (go_simp; rfl)); (case hp => exact (Reps.none _ _)); intro v222 w14 ho15 hb hg_ hnew_; clear hg_ hnew_; (first | rw [← Ny221.out] at ho15 | (simp only [Int.reduceToNat] at ho15; rw [← Ny221.out] at ho15)); have HO223 := Aside0.mk (Kd.R_lower (Kd.R_new' ho15 (Kd.R_lt Bc_0)) (below_size hb_)); replace HO_4 := Aside0.mk (Kd.R_elder' Bc_0 (Kd.R_base ho15) hb); replace HB := Aside0.mk (below_step hb_ hb); clear hb ho15)); go_ret2
        exact ⟨_, Bc_2, (by (with_reducible repeat (first | apply Kd.R_alloc | apply Kd.R_drewN | apply Kd.R_drew)); exact Kd.R_mono HO223.out (fun _ hk => trivial)), hb_⟩
       ·replace c13 := Bool.eq_false_iff.mpr c13
        subst c13; rw [if_neg (show ¬ (false = true) by decide)] at H; have HC16 := Aside0.mk H; clear H; go_upto_region 10 with (fail)
        go_cut [7] (fun v7 wc => ∃ (kq : Nat) (x7_15 : Bool), v7 = .bool x7_15 ∧ Aside0 (impl_PartsOf.j2 kq a0 x4_1 x5_1 x6_1 x7_15 = some (r1, r2)) ∧ Aside0 (kq ≤ kj7) ∧ Aside0 (Kd.R Kd.string 9 wc w.heap.size (fun _ => True) u4 x4_1) ∧ Aside0 (Below w.heap.size w wc))
        case first =>
         have H := HC16.out; clear HC16; by_cases c17 : x6_1 = (a0.size : Int)
         ·rw [if_pos c17] at H
          have c17b0 : (x6_1 == (a0.size : Int)) = true := beq_iff_eq.mpr c17; have c17b1 : (x6_1 != (a0.size : Int)) = false := bne_eq_false_iff_eq.mpr c17; clear c17; (first | rw [c17b0] | (simp only [i64_w, i32_w]; rw [c17b0]) | skip); have H' := Aside0.mk H; clear H; go_wp2; go_meet
          case rel => exact ⟨_, (true), Bc_1, H', ⟨(by have := HK1.out; have := HJ7.out; first | omega | exact Nat.le_refl _)⟩, ⟨Bc_0⟩, ⟨hb_⟩⟩
         ·rw [if_neg c17] at H
          have c17b0 : (x6_1 == (a0.size : Int)) = false := beq_eq_false_iff_ne.mpr c17; have c17b1 : (x6_1 != (a0.size : Int)) = true := bne_iff_ne.mpr c17; (first | rw [c17b0] | (simp only [i64_w, i32_w]; rw [c17b0]) | skip); by_cases c18 : 0 ≤ x6_1
          ·rw [if_pos c18] at H
           have c18b0 : decide (0 ≤ x6_1) = true := decide_eq_true c18; clear c18; by_cases c19 : x6_1 < (a0.size : Int)
           ·rw [if_pos c19] at H
            have c19b0 : decide (x6_1 < (a0.size : Int)) = true := decide_eq_true c19; clear c19; have H' := Aside0.mk H; clear H; have p20 : 0 ≤ (x6_1 : Int) := of_decide_eq_true Bc_3; have q20 : x6_1 < (a0.size : Int) := of_decide_eq_true Bc_3; have hx20 := bt_at a0 x6_1; replace p20 := eq_true p20; replace q20 := eq_true q20; go_wp2; go_meet
            case rel => exact ⟨_, (((bt a0 x6_1) == 32)), Bc_1, H', ⟨(by have := HK1.out; have := HJ7.out; first | omega | exact Nat.le_refl _)⟩, ⟨Bc_0⟩, ⟨hb_⟩⟩
           ·rw [if_neg c19] at H
            exact absurd H (by simp)
          ·rw [if_neg c18] at H
           exact absurd H (by simp)
        case rest =>
         clear HC16; try clear c1; try clear p1; try clear q1; try clear hx1; try clear c2; try clear c2b0; try clear c2b1; try clear p2; try clear q2; try clear hx2; try clear p6; try clear c7; try clear c7b0; try clear c9; try clear c9b0; try clear c10; try clear c10b0; try clear p11; try clear q11; try clear hx11; try clear c13; try clear c17; try clear c17b0; try clear c17b1; try clear c18; try clear c18b0; try clear c19; try clear c19b0; try clear p20; try clear q20; try clear hx20
         obtain ⟨kq, x7_15, rfl, HA, HJ15, HO_4, HB⟩ := hcut; cases kq with
         | zero => exact absurd HA.out (by simp [impl_PartsOf.j2])
         | succ kj15 =>
          have H := HA.out; clear HA; simp only [impl_PartsOf.j2] at H; have HC21 := Aside0.mk H; clear H; go_upto_region 11 with (fail)
          go_cut [47] (fun v47 wc => ∃ (kq : Nat) (x47_20 : Bool), v47 = .bool x47_20 ∧ Aside0 (impl_PartsOf.j3 kq a0 x4_1 x5_1 x6_1 x7_15 x47_20 = some (r1, r2)) ∧ Aside0 (kq ≤ kj15) ∧ Aside0 (Kd.R Kd.string 9 wc w.heap.size (fun _ => True) u4 x4_1) ∧ Aside0 (Below w.heap.size w wc))
          case first =>
           have H := HC21.out; clear HC21; by_cases c22 : x7_15 = true
           ·subst c22
            rw [if_pos rfl] at H; have H' := Aside0.mk H; clear H; go_wp2; go_meet
            case rel => exact ⟨_, (false), Bc_1, H', ⟨Bc_8⟩, ⟨Bc_0⟩, ⟨hb_⟩⟩
           ·replace c22 := Bool.eq_false_iff.mpr c22
            subst c22; rw [if_neg (show ¬ (false = true) by decide)] at H; have H' := Aside0.mk H; clear H; go_wp2; go_meet
            case rel => exact ⟨_, (decide (x5_1 < 0)), Bc_1, H', ⟨Bc_8⟩, ⟨Bc_0⟩, ⟨hb_⟩⟩
          case rest =>
           clear HC21; try clear c1; try clear p1; try clear q1; try clear hx1; try clear c2; try clear c2b0; try clear c2b1; try clear p2; try clear q2; try clear hx2; try clear p6; try clear c7; try clear c7b0; try clear c9; try clear c9b0; try clear c10; try clear c10b0; try clear p11; try clear q11; try clear hx11; try clear c13; try clear c17; try clear c17b0; try clear c17b1; try clear c18; try clear c18b0; try clear c19; try clear c19b0; try clear p20; try clear q20; try clear hx20; try clear c22
           obtain ⟨kq, x47_20, rfl, HA, HJ20, HO_4, HB⟩ := hcut; cases kq with
           | zero => exact absurd HA.out (by simp [impl_PartsOf.j3])
           | succ kj20 =>
            have H := HA.out; clear HA; simp only [impl_PartsOf.j3] at H; by_cases c23 : x47_20 = true
            ·subst c23
             rw [if_pos rfl] at H; by_cases c24 : x7_15 = true
             ·subst c24
              rw [if_pos rfl] at H; by_cases c25 : x6_1 ≥ 0
              ·rw [if_pos c25] at H
               have c25b0 : decide (0 ≤ x6_1) = true := decide_eq_true c25; clear c25; by_cases c26 : 0 ≤ x6_1
               ·rw [if_pos c26] at H
                have c26b0 := eq_true c26; have c26b1 : decide (0 ≤ x6_1) = true := decide_eq_true c26; clear c26; by_cases c27 : x6_1 ≤ x6_1
                ·rw [if_pos c27] at H
                 have c27b0 := eq_true c27; have c27b1 : decide (x6_1 ≤ x6_1) = true := decide_eq_true c27; clear c27; by_cases c28 : x6_1 ≤ (a0.size : Int)
                 ·rw [if_pos c28] at H
                  have c28b0 := eq_true c28; have c28b1 : decide (x6_1 ≤ (a0.size : Int)) = true := decide_eq_true c28; clear c28; by_cases c29 : x4_1.length < 8796093022208
                  ·rw [if_pos c29] at H
                   have LMc29 := Aside0.mk c29; clear c29; obtain ⟨y224, hy224⟩ : ∃ y_ : List ByteArray, y_ = (x4_1 ++ [ByteArray.empty]) := ⟨_, rfl⟩; replace H : (impl_PartsOf.l0 kj20 a0 y224 (-1) (wrap64 (x6_1 + 1))) = some (r1, r2) := by first | (rw [hy224]; with_reducible exact H) | (have H2_ := (Option.bind_some _ _).symm.trans H; rw [hy224]; with_reducible exact H2_) | (have H2_ := (Option.bind_some _ _).symm.trans H; with_reducible exact H2_) | with_reducible exact H | (rw [hy224]; exact H) | exact H
                   have Ny224 := Aside0.mk hy224; clear hy224; have H' := Aside0.mk H; clear H; go_wp2_with (first | ((with_reducible refine gate_builtin (b := .append) (xs := #[.tmp 54, .tmp 59]) rfl ?_); at_builtin; refine Kd.R_append Kd.string (w0 := w) w.heap.size rfl (.tmp 54) (.tmp 59) 121 9 (.string ⟨#[]⟩) 16 rfl Try.underlying121 info9 rfl (by decide) (by omega) u4 x4_1 ByteArray.empty [.string ByteArray.empty] (fun _ => True) (fun _ => False) rfl rfl ?aP (fun _ hk => hk.elim) ?aF ?aO ?aB ?aS ?aL ?_; (case aP => exact rfl); (case aB => exact hb_); (case aF => exact (fun _ _ => trivial)); (case aO => exact Bc_0); (case aS => exact (below_size hb_)); (case aL => have := LMc29.out; omega); intro v225 w30 ho hb hg hat; rw [← Ny224.out] at ho; replace HB := Aside0.mk (hb); have HO226 := Aside0.mk (ho); clear HO_4; clear ho hb hg hat)); go_roundg kj20
                   case measure => have := HK1.out; have := HJ7.out; have := HJ15.out; have := HJ20.out; omega
                   case rel => exact ⟨(y224), ((-1)), (wrap64 (x6_1 + 1)), Bc_1, Bc_1, H', ⟨Bc_6⟩, ⟨(by (with_reducible repeat (first | apply Kd.R_alloc | apply Kd.R_drewN | apply Kd.R_drew)); exact HO226.out)⟩, ⟨hb_⟩⟩
                  ·rw [if_neg c29] at H
                   exact absurd H (by simp)
                 ·rw [if_neg c28] at H
                  exact absurd H (by simp)
                ·rw [if_neg c27] at H
                 exact absurd H (by simp)
               ·rw [if_neg c26] at H
                exact absurd H (by simp)
              ·rw [if_neg c25] at H
               have c25b0 : decide (0 ≤ x6_1) = false := decide_eq_false c25; clear c25; have H' := Aside0.mk H; clear H; go_wp2; go_roundg kj20
               case measure => have := HK1.out; have := HJ7.out; have := HJ15.out; have := HJ20.out; omega
               case rel => exact ⟨(x4_1), (x6_1), (wrap64 (x6_1 + 1)), Bc_1, Bc_1, H', ⟨Bc_6⟩, ⟨Bc_0⟩, ⟨hb_⟩⟩
             ·replace c24 := Bool.eq_false_iff.mpr c24
              subst c24; rw [if_neg (show ¬ (false = true) by decide)] at H; have H' := Aside0.mk H; clear H; go_wp2; go_roundg kj20
              case measure => have := HK1.out; have := HJ7.out; have := HJ15.out; have := HJ20.out; omega
              case rel => exact ⟨(x4_1), (x6_1), (wrap64 (x6_1 + 1)), Bc_1, Bc_1, H', ⟨Bc_6⟩, ⟨Bc_0⟩, ⟨hb_⟩⟩
            ·replace c23 := Bool.eq_false_iff.mpr c23
             subst c23; rw [if_neg (show ¬ (false = true) by decide)] at H; by_cases c31 : x7_15 = true
             ·subst c31
              rw [if_pos rfl] at H; by_cases c32 : x5_1 ≥ 0
              ·rw [if_pos c32] at H
               have c32b0 : decide (0 ≤ x5_1) = true := decide_eq_true c32; clear c32; by_cases c33 : 0 ≤ x5_1
               ·rw [if_pos c33] at H
                have c33b0 := eq_true c33; have c33b1 : decide (0 ≤ x5_1) = true := decide_eq_true c33; clear c33; by_cases c34 : x5_1 ≤ x6_1
                ·rw [if_pos c34] at H
                 have c34b0 := eq_true c34; have c34b1 : decide (x5_1 ≤ x6_1) = true := decide_eq_true c34; clear c34; by_cases c35 : x6_1 ≤ (a0.size : Int)
                 ·rw [if_pos c35] at H
                  have c35b0 := eq_true c35; have c35b1 : decide (x6_1 ≤ (a0.size : Int)) = true := decide_eq_true c35; clear c35; by_cases c36 : x4_1.length < 8796093022208
                  ·rw [if_pos c36] at H
                   have LMc36 := Aside0.mk c36; clear c36; obtain ⟨y227, hy227⟩ : ∃ y_ : List ByteArray, y_ = (x4_1 ++ [a0.extract (x5_1 : Int).toNat (x6_1 : Int).toNat]) := ⟨_, rfl⟩; replace H : (impl_PartsOf.l0 kj20 a0 y227 (-1) (wrap64 (x6_1 + 1))) = some (r1, r2) := by first | (rw [hy227]; with_reducible exact H) | (have H2_ := (Option.bind_some _ _).symm.trans H; rw [hy227]; with_reducible exact H2_) | (have H2_ := (Option.bind_some _ _).symm.trans H; with_reducible exact H2_) | with_reducible exact H | (rw [hy227]; exact H) | exact H
                   have Ny227 := Aside0.mk hy227; clear hy227; have H' := Aside0.mk H; clear H; go_wp2_with (first | ((with_reducible refine gate_builtin (b := .append) (xs := #[.tmp 54, .tmp 59]) rfl ?_); at_builtin; refine Kd.R_append Kd.string (w0 := w) w.heap.size rfl (.tmp 54) (.tmp 59) 121 9 (.string ⟨#[]⟩) 16 rfl Try.underlying121 info9 rfl (by decide) (by omega) u4 x4_1 (a0.extract (x5_1 : Int).toNat (x6_1 : Int).toNat) [.string (a0.extract (x5_1 : Int).toNat (x6_1 : Int).toNat)] (fun _ => True) (fun _ => False) rfl rfl ?aP (fun _ hk => hk.elim) ?aF ?aO ?aB ?aS ?aL ?_; (case aP => exact rfl); (case aB => exact hb_); (case aF => exact (fun _ _ => trivial)); (case aO => exact Bc_0); (case aS => exact (below_size hb_)); (case aL => have := LMc36.out; omega); intro v228 w37 ho hb hg hat; rw [← Ny227.out] at ho; replace HB := Aside0.mk (hb); have HO229 := Aside0.mk (ho); clear HO_4; clear ho hb hg hat)); go_roundg kj20
                   case measure => have := HK1.out; have := HJ7.out; have := HJ15.out; have := HJ20.out; omega
                   case rel => exact ⟨(y227), ((-1)), (wrap64 (x6_1 + 1)), Bc_1, Bc_1, H', ⟨Bc_6⟩, ⟨(by (with_reducible repeat (first | apply Kd.R_alloc | apply Kd.R_drewN | apply Kd.R_drew)); exact HO229.out)⟩, ⟨hb_⟩⟩
                  ·rw [if_neg c36] at H
                   exact absurd H (by simp)
                 ·rw [if_neg c35] at H
                  exact absurd H (by simp)
                ·rw [if_neg c34] at H
                 exact absurd H (by simp)
               ·rw [if_neg c33] at H
                exact absurd H (by simp)
              ·rw [if_neg c32] at H
               have c32b0 : decide (0 ≤ x5_1) = false := decide_eq_false c32; clear c32; have H' := Aside0.mk H; clear H; go_wp2; go_roundg kj20
               case measure => have := HK1.out; have := HJ7.out; have := HJ15.out; have := HJ20.out; omega
               case rel => exact ⟨(x4_1), (x5_1), (wrap64 (x6_1 + 1)), Bc_1, Bc_1, H', ⟨Bc_6⟩, ⟨Bc_0⟩, ⟨hb_⟩⟩
             ·replace c31 := Bool.eq_false_iff.mpr c31
              subst c31; rw [if_neg (show ¬ (false = true) by decide)] at H; have H' := Aside0.mk H; clear H; go_wp2; go_roundg kj20
              case measure => have := HK1.out; have := HJ7.out; have := HJ15.out; have := HJ20.out; omega
              case rel => exact ⟨(x4_1), (x5_1), (wrap64 (x6_1 + 1)), Bc_1, Bc_1, H', ⟨Bc_6⟩, ⟨Bc_0⟩, ⟨hb_⟩⟩
    ·rw [if_neg c7] at H
     have c7b0 : decide (x6_1 ≤ (a0.size : Int)) = false := decide_eq_false c7; clear c7; by_cases c38 : (x4_1.length : Int) > 12
     ·rw [if_pos c38] at H
      have c38b0 : decide (12 < (x4_1.length : Int)) = true := decide_eq_true c38; have c38b1 : decide (12 < x4_1.length) = true := decide_eq_true (by omega); clear c38; obtain ⟨y217, hy217⟩ : ∃ y_ : List ByteArray, y_ = (([] : List ByteArray)) := ⟨_, rfl⟩; replace H : (some (y217, false)) = some (r1, r2) := by first | (rw [hy217]; with_reducible exact H) | (have H2_ := (Option.bind_some _ _).symm.trans H; rw [hy217]; with_reducible exact H2_) | (have H2_ := (Option.bind_some _ _).symm.trans H; with_reducible exact H2_) | with_reducible exact H | (rw [hy217]; exact H) | exact H
      have Ny217 := Aside0.mk hy217; clear hy217; simp only [Option.some.injEq, Prod.mk.injEq] at H; obtain ⟨rfl, rfl⟩ := H; obtain ⟨Ao39, co39, eo39⟩ := Kd.R_slice HO_4.out; subst eo39; go_wp2_with (first | ((with_reducible refine gate_dst (N := 64) rfl ?_); refine Kd.R_lit Kd.string _ 9 ?hg (N := 64) ?hd (xs := ([] : List ByteArray)) (inner := []) (ok := fun _ => True) (okp := fun _ => True) ?hr ?hp (fun _ hk => hk) trivial (Below.refl _ _) (Nat.le_refl _) (by simp) ?_; (case hd => rfl); (case hg => rfl); (case hr => first | (go_simp; done) | (go_simp; rfl)); (case hp => exact (Reps.none _ _)); intro v218 w40 ho41 hb hg_ hnew_; clear hg_ hnew_; (first | rw [← Ny217.out] at ho41 | (simp only [Int.reduceToNat] at ho41; rw [← Ny217.out] at ho41)); have HO219 := Aside0.mk (Kd.R_lower (Kd.R_new' ho41 (Kd.R_lt Bc_0)) (below_size hb_)); replace HO_4 := Aside0.mk (Kd.R_elder' Bc_0 (Kd.R_base ho41) hb); replace HB := Aside0.mk (below_step hb_ hb); clear hb ho41)); go_ret2
      exact ⟨_, Bc_2, (by (with_reducible repeat (first | apply Kd.R_alloc | apply Kd.R_drewN | apply Kd.R_drew)); exact Kd.R_mono HO219.out (fun _ hk => trivial)), hb_⟩
     ·rw [if_neg c38] at H
      have c38b0 : decide (12 < (x4_1.length : Int)) = false := decide_eq_false c38; have c38b1 : decide (12 < x4_1.length) = false := decide_eq_false (by omega); clear c38; simp only [Option.some.injEq, Prod.mk.injEq] at H; obtain ⟨rfl, rfl⟩ := H; obtain ⟨Ao42, co42, eo42⟩ := Kd.R_slice HO_4.out; subst eo42; go_wp2; go_ret2
      exact ⟨_, Bc_2, Bc_0, hb_⟩
end Go.Proofs.Ytjmhhgnknjfnlaa.PFnEventsTold
namespace Go.Proofs.Ytjmhhgnknjfnlaa.PFnEventsTold
open Go.RowKit Go.Proofs.YtjmhhgnknjfnlaaW.PrintWords Go.Proofs.YtjmhhgnknjfnlaaW.PrintLast Go.Proofs.YtjmhhgnknjfnlaaW.PrintMore
attribute [local go_sem] max2_int min2_int max_two min_two max_three min_three max_four min_four
set_option linter.unusedVariables false
set_option linter.unusedSimpArgs false
def impl_ReadDecimal.l0 : Nat → ByteArray → Int → Int → Option (Int × Bool)
 | 0, _, _, _ => none
 | k + 1, x0, x4, x5 => if x5 < (x0.size : Int) then (if 0 ≤ x5 then (if (bt x0 x5) < 48 then (some (0, false)) else (if (bt x0 x5) > 57 then (some (0, false)) else (impl_ReadDecimal.l0 k x0 (wrap64 ((wrap64 (10 * x4)) + (((bt x0 x5) - 48) % 256))) (wrap64 (x5 + 1))))) else (none)) else (if x4 > 1000000000 then (some (0, false)) else ((impl_Decimal.f k x4).bind fun t231 => (if t231.toList = x0.toList then (some (x4, true)) else (some (0, false)))))
def impl_ReadDecimal.f (k : Nat) (a0 : ByteArray) : Option (Int × Bool) := (impl_within.f (a0.size : Int) 1 10).bind fun t230 => (if t230 = true then (impl_ReadDecimal.l0 k a0 0 0) else (some (0, false)))
theorem impl_ReadDecimal.mono_l : ∀ k, (∀ y0 y1 y2, LeO (impl_ReadDecimal.l0 k y0 y1 y2) (impl_ReadDecimal.l0 (k + 1) y0 y1 y2))
 | 0 => fun _ _ _ r h => by simp [impl_ReadDecimal.l0] at h
 | k + 1 => by
  have ih0 := impl_ReadDecimal.mono_l k
  ·intro y0 y1 y2
   unfold impl_ReadDecimal.l0
   repeat' first
   | (with_reducible exact ih0 _ _ _)
   | (with_reducible exact impl_Decimal.mono _ _)
   | (with_reducible exact LeO.refl _)
   | (with_reducible exact LeO.none _)
   | (with_reducible refine LeO.ite ?_ ?_)
   | (with_reducible refine LeO.bind ?_ (fun _ => ?_))
   | exact ih0 _ _ _
   | exact impl_Decimal.mono _ _
   | exact LeO.none _
   | refine LeO.ite ?_ ?_
   | refine LeO.bind ?_ (fun _ => ?_)
theorem impl_ReadDecimal.mono : ∀ a0 k, LeO (impl_ReadDecimal.f k a0) (impl_ReadDecimal.f (k + 1) a0) := by
 intro a0 k; have ih0 := impl_ReadDecimal.mono_l k; unfold impl_ReadDecimal.f
 repeat' first
   | (with_reducible exact ih0 _ _ _)
   | (with_reducible exact impl_Decimal.mono _ _)
   | (with_reducible exact LeO.refl _)
   | (with_reducible exact LeO.none _)
   | (with_reducible refine LeO.ite ?_ ?_)
   | (with_reducible refine LeO.bind ?_ (fun _ => ?_))
   | exact ih0 _ _ _
   | exact impl_Decimal.mono _ _
   | exact LeO.none _
   | refine LeO.ite ?_ ?_
   | refine LeO.bind ?_ (fun _ => ?_)
set_option maxHeartbeats 8000000 in
set_option maxRecDepth 100000 in
theorem impl_ReadDecimal.calls (k : Nat) (a0 : ByteArray) (r1 : Int) (r2 : Bool) (w : World) (h : impl_ReadDecimal.f k a0 = some (r1, r2)) :
  Calls Try.prog 74 #[.string a0] w fun e w' => e = .returned (.tuple #[.int .i64 r1, .bool r2]) ∧ Below w.heap.size w w' := by
 have HB := Aside0.mk (Below.refl w.heap.size w); have H : ((impl_within.f (a0.size : Int) 1 10).bind fun t230 => (if t230 = true then (impl_ReadDecimal.l0 k a0 0 0) else (some (0, false)))) = some (r1, r2) := h; clear h; replace H := Option.bind_eq_some_iff.mp H; obtain ⟨t230, A20, H⟩ := H; try dsimp only at H
 have A2 := Aside0.mk A20; clear A20; have HC3 := Aside0.mk H; clear H; go_enter Try.func74, Try.ntmps74; go_upto_if 9 with (first | ((with_reducible refine gate_callee (f := 71) rfl ?_); refine gA_ (some 8) Try.func71 (impl_within.calls _ _ _ _ _ A2.out) ?_; rintro e w' ⟨rfl, ⟨nd, rfl⟩⟩; refine ⟨_, rfl, ?_⟩))
 (try simp only [Act.put, List.setIfInBounds_toArray, List.set_cons_zero, List.set_cons_succ]); have H := HC3.out; clear HC3; by_cases c4 : t230 = true
 ·subst c4
  rw [if_pos rfl] at H; have H' := Aside0.mk H; clear H; go_wp2; go_loopg [4, 5] k (fun kq v4 v5 w' => ∃ (x4_1 : Int) (x5_1 : Int), v4 = .int .i64 x4_1 ∧ v5 = .int .i64 x5_1 ∧ Aside0 (impl_ReadDecimal.l0 kq a0 x4_1 x5_1 = some (r1, r2)) ∧ Aside0 (kq ≤ k) ∧ Aside0 (Below w.heap.size w w'))
  case atStart => exact ⟨(0), (0), Bc_1, Bc_1, H', ⟨Nat.le_refl _⟩, ⟨hb_⟩⟩
  case round =>
   clear H'; try clear p2; try clear c4
   obtain ⟨x4_1, x5_1, rfl, rfl, HA, HK1, HB⟩ := hrel; cases gk with
   | zero => exact absurd HA.out (by simp [impl_ReadDecimal.l0])
   | succ k1 =>
    have H := HA.out; clear HA; simp only [impl_ReadDecimal.l0] at H; by_cases c5 : x5_1 < (a0.size : Int)
    ·rw [if_pos c5] at H
     have c5b0 : decide (x5_1 < (a0.size : Int)) = true := decide_eq_true c5; clear c5; (first | rw [c5b0] | (simp only [i64_w, i32_w]; rw [c5b0]) | skip); by_cases c6 : 0 ≤ x5_1
     ·rw [if_pos c6] at H
      have c6b0 : decide (0 ≤ x5_1) = true := decide_eq_true c6; clear c6; by_cases c8 : (bt a0 x5_1) < 48
      ·rw [if_pos c8] at H
       have c8b0 : decide ((bt a0 x5_1) < 48) = true := decide_eq_true c8; clear c8; simp only [Option.some.injEq, Prod.mk.injEq] at H; obtain ⟨rfl, rfl⟩ := H; have p7 : 0 ≤ (x5_1 : Int) := of_decide_eq_true Bc_3; have q7 : x5_1 < (a0.size : Int) := of_decide_eq_true Bc_3; have hx7 := bt_at a0 x5_1; replace p7 := eq_true p7; replace q7 := eq_true q7; go_wp2; go_ret2
       exact ⟨Bc_2, hb_⟩
      ·rw [if_neg c8] at H
       have c8b0 : decide ((bt a0 x5_1) < 48) = false := decide_eq_false c8; clear c8; by_cases c10 : (bt a0 x5_1) > 57
       ·rw [if_pos c10] at H
        have c10b0 : decide (57 < (bt a0 x5_1)) = true := decide_eq_true c10; clear c10; simp only [Option.some.injEq, Prod.mk.injEq] at H; obtain ⟨rfl, rfl⟩ := H; have p7 : 0 ≤ (x5_1 : Int) := of_decide_eq_true Bc_3; have q7 : x5_1 < (a0.size : Int) := of_decide_eq_true Bc_3; have hx7 := bt_at a0 x5_1; replace p7 := eq_true p7; replace q7 := eq_true q7; have p9 : 0 ≤ (x5_1 : Int) := of_decide_eq_true Bc_3; have q9 : x5_1 < (a0.size : Int) := of_decide_eq_true Bc_3; have hx9 := bt_at a0 x5_1; replace p9 := eq_true p9; replace q9 := eq_true q9; go_wp2; go_ret2
        exact ⟨Bc_2, hb_⟩
       ·rw [if_neg c10] at H
        have c10b0 : decide (57 < (bt a0 x5_1)) = false := decide_eq_false c10; clear c10; have H' := Aside0.mk H; clear H; have p7 : 0 ≤ (x5_1 : Int) := of_decide_eq_true Bc_3; have q7 : x5_1 < (a0.size : Int) := of_decide_eq_true Bc_3; have hx7 := bt_at a0 x5_1; replace p7 := eq_true p7; replace q7 := eq_true q7; have p9 : 0 ≤ (x5_1 : Int) := of_decide_eq_true Bc_3; have q9 : x5_1 < (a0.size : Int) := of_decide_eq_true Bc_3; have hx9 := bt_at a0 x5_1; replace p9 := eq_true p9; replace q9 := eq_true q9; have p11 : 0 ≤ (x5_1 : Int) := of_decide_eq_true Bc_3; have q11 : x5_1 < (a0.size : Int) := of_decide_eq_true Bc_3; have hx11 := bt_at a0 x5_1; replace p11 := eq_true p11; replace q11 := eq_true q11; go_wp2; go_roundg k1
        case measure => have := HK1.out; omega
        case rel => exact ⟨(wrap64 ((wrap64 (10 * x4_1)) + (((bt a0 x5_1) - 48) % 256))), (wrap64 (x5_1 + 1)), Bc_1, Bc_1, H', ⟨(by have := HK1.out; omega)⟩, ⟨hb_⟩⟩
     ·rw [if_neg c6] at H
      exact absurd H (by simp)
    ·rw [if_neg c5] at H
     have c5b0 : decide (x5_1 < (a0.size : Int)) = false := decide_eq_false c5; clear c5; (first | rw [c5b0] | (simp only [i64_w, i32_w]; rw [c5b0]) | skip); by_cases c12 : x4_1 > 1000000000
     ·rw [if_pos c12] at H
      have c12b0 : decide (1000000000 < x4_1) = true := decide_eq_true c12; clear c12; simp only [Option.some.injEq, Prod.mk.injEq] at H; obtain ⟨rfl, rfl⟩ := H; go_wp2; go_ret2
      exact ⟨Bc_2, hb_⟩
     ·rw [if_neg c12] at H
      have c12b0 : decide (1000000000 < x4_1) = false := decide_eq_false c12; clear c12; replace H := Option.bind_eq_some_iff.mp H; obtain ⟨t231, A130, H⟩ := H; try dsimp only at H
      have A13 := Aside0.mk A130; clear A130; have HC14 := Aside0.mk H; clear H; go_upto_if 41 with (first | (go_at_call 72; (with_reducible refine (impl_Decimal.calls k1 x4_1 t231 _ A13.out).mono ?_); rintro e w15 ⟨rfl, hb⟩; replace HB := Aside0.mk (below_step hb_ hb); (try clear hb); (try clear hb2); (try clear hk); (try clear hi)))
      (try simp only [Act.put, List.setIfInBounds_toArray, List.set_cons_zero, List.set_cons_succ]); have H := HC14.out; clear HC14; by_cases c16 : t231.toList = a0.toList
      ·rw [if_pos c16] at H
       have c16b0 : (t231.toList == a0.toList) = true := beq_iff_eq.mpr c16; have c16b1 : (t231.toList != a0.toList) = false := bne_eq_false_iff_eq.mpr c16; clear c16; (first | rw [c16b0] | (simp only [i64_w, i32_w]; rw [c16b0]) | skip); simp only [Option.some.injEq, Prod.mk.injEq] at H; obtain ⟨rfl, rfl⟩ := H; go_wp2; go_ret2
       exact ⟨Bc_2, hb_⟩
      ·rw [if_neg c16] at H
       have c16b0 : (t231.toList == a0.toList) = false := beq_eq_false_iff_ne.mpr c16; have c16b1 : (t231.toList != a0.toList) = true := bne_iff_ne.mpr c16; (first | rw [c16b0] | (simp only [i64_w, i32_w]; rw [c16b0]) | skip); simp only [Option.some.injEq, Prod.mk.injEq] at H; obtain ⟨rfl, rfl⟩ := H; go_wp2; go_ret2
       exact ⟨Bc_2, hb_⟩
 ·replace c4 := Bool.eq_false_iff.mpr c4
  subst c4; rw [if_neg (show ¬ (false = true) by decide)] at H; simp only [Option.some.injEq, Prod.mk.injEq] at H; obtain ⟨rfl, rfl⟩ := H; go_wp2; go_ret2
  exact ⟨Bc_2, hb_⟩
end Go.Proofs.Ytjmhhgnknjfnlaa.PFnEventsTold
