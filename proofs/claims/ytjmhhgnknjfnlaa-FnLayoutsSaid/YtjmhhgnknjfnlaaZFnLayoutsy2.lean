-- functions and their walks: written by a program of this claim's
import Derived.Test.YtjmhhgnknjfnlaaProg
import Derived.Test.YtjmhhgnknjfnlaaVFnLayouts
import Derived.Test.YtjmhhgnknjfnlaaZFnLayoutsy0
import Derived.Test.YtjmhhgnknjfnlaaZFnLayoutsy1
namespace Go.Proofs.Ytjmhhgnknjfnlaa.PFnLayouts
open Go.RowKit Go.Proofs.YtjmhhgnknjfnlaaW.PrintWords Go.Proofs.YtjmhhgnknjfnlaaW.PrintLast Go.Proofs.YtjmhhgnknjfnlaaW.PrintMore
attribute [local go_sem] max2_int min2_int max_two min_two max_three min_three max_four min_four
set_option linter.unusedVariables false
set_option linter.unusedSimpArgs false
theorem Bc_0 {P : Prop} (h : P := by first | exact Kd.own_blk (Kd.R_ne HO261.out BK274.out (by decide)) | (rw [add_block]; exact Kd.own_blk (Kd.R_ne HO261.out BK274.out (by decide))) | (show (Addr.add _ _).block ≠ _; rw [add_block]; exact Kd.own_blk (Kd.R_ne HO261.out BK274.out (by decide))) | (dsimp only; exact Kd.own_blk (Kd.R_ne HO261.out BK274.out (by decide)))) : P := h
theorem Bc_1 {P : Prop} (h : P := by (try simp only [List.map_toArray, List.map_cons, List.map_nil]); first | done | rfl | (simp only [List.length_drop, List.length_take]; rfl)) : P := h
theorem Bc_2 {P : Prop} (h : P := by (with_reducible repeat (first | apply Kd.R_alloc | apply Kd.R_drewN | apply Kd.R_drew)); exact HO261.out) : P := h
theorem Bc_3 {P : Prop} (h : P := by (with_reducible repeat (first | apply Kd.R_alloc | apply Kd.R_drewN | apply Kd.R_drew)); exact HO265.out) : P := h
theorem Bc_4 {P : Prop} (h : P := by first | rfl | (simp [errW_none, errW_some] <;> rfl) | (simp [*, errW_none, errW_some] <;> rfl)) : P := h
theorem Bc_5 {P : Prop} (h : P := by first | exact Kd.R_nil _ _ _ _ _ | exact Kd.N_nil _ _ _ _ _ | exact Kd.V_nil _ _ _ _ _ | exact Kd.Q_nil _ _ _ _ _ | exact Kd.S_nil _ _ _ _ _) : P := h
theorem Bc_6 {P : Prop} (h : P := by (with_reducible repeat (first | refine blk_drewN ?_ _ | refine blk_drew ?_ | refine blk_alloc ?_ _)); refine blk_put (cs := #[.slice none 0 0, .slice none 0 0, .slice none 0 0]) ?_ 2 _ rfl; (with_reducible repeat (first | refine blk_drewN ?_ _ | refine blk_drew ?_ | refine blk_alloc ?_ _)); refine blk_put (cs := #[.slice none 0 0, .slice none 0 0, .slice none 0 0]) ?_ 1 _ rfl; (with_reducible repeat (first | refine blk_drewN ?_ _ | refine blk_drew ?_ | refine blk_alloc ?_ _)); refine blk_put (cs := #[.slice none 0 0, .slice none 0 0, .slice none 0 0]) ?_ 0 _ rfl; (with_reducible repeat (first | refine blk_drewN ?_ _ | refine blk_drew ?_ | refine blk_alloc ?_ _)); exact BK258.out) : P := h
theorem Bc_7 {P : Prop} (h : P := by (with_reducible repeat (first | apply Kd.R_alloc | apply Kd.R_drewN | apply Kd.R_drew)); exact HO269.out) : P := h
theorem Bc_8 {P : Prop} (h : P := by first | (with_reducible assumption) | assumption) : P := h
theorem Bc_9 {P : Prop} (h : P := by first | rfl | (simp; done) | (simp [*]; done)) : P := h
theorem Bc_10 {P : Prop} (h : P := by (with_reducible repeat (first | apply Kd.R_alloc | apply Kd.R_drewN | apply Kd.R_drew)); exact HO_5.out) : P := h
theorem Bc_11 {P : Prop} (h : P := by (with_reducible repeat (first | apply Kd.R_alloc | apply Kd.R_drewN | apply Kd.R_drew)); exact HO_3.out) : P := h
theorem Bc_12 {P : Prop} (h : P := by (with_reducible repeat (first | refine blk_drewN ?_ _ | refine blk_drew ?_ | refine blk_alloc ?_ _)); exact BK297.out) : P := h
theorem Bc_13 {P : Prop} (h : P := by (with_reducible repeat (first | refine blk_drewN ?_ _ | refine blk_drew ?_ | refine blk_alloc ?_ _)); exact BK298.out) : P := h
theorem Bc_14 {P : Prop} (h : P := by (with_reducible repeat (first | apply Kd.R_alloc | apply Kd.R_drewN | apply Kd.R_drew)); exact Kd.R_mono HO265.out (fun _ hk => ⟨hk.1.2, hk.2⟩)) : P := h
theorem Bc_15 {P : Prop} (h : P := by (with_reducible repeat (first | apply Kd.R_alloc | apply Kd.R_drewN | apply Kd.R_drew)); exact Kd.R_mono HO269.out (fun _ hk => ⟨hk.1.2, hk.2⟩)) : P := h
theorem Bc_16 {P : Prop} (h : P := by (with_reducible repeat (first | apply Kd.R_alloc | apply Kd.R_drewN | apply Kd.R_drew)); exact Kd.R_mono HO273.out (fun _ hk => ⟨hk.1.2, hk.2⟩)) : P := h
theorem Bc_17 {P : Prop} (h : P := by (with_reducible repeat (first | apply Kd.R_alloc | apply Kd.R_drewN | apply Kd.R_drew)); exact (Kd.R_mono (Kd.R_far (p := ⟨gb274, 2, none⟩) (Kd.R_far (p := ⟨gb274, 1, none⟩) (Kd.R_far (p := ⟨gb274, 0, none⟩) (Kd.R_types HO265.out BK274.out (by decide)) (fun _ hk => hk.2) (.slice Ao27 t263.length co27)) (fun _ hk => hk.2) (.slice Ao26 t267.length co26)) (fun _ hk => hk.2) (.slice Ao25 t271.length co25)) (fun _ h_ => h_.1))) : P := h
theorem Bc_18 {P : Prop} (h : P := by (with_reducible repeat (first | apply Kd.R_alloc | apply Kd.R_drewN | apply Kd.R_drew)); exact (Kd.R_mono (Kd.R_far (p := ⟨gb274, 2, none⟩) (Kd.R_far (p := ⟨gb274, 1, none⟩) (Kd.R_far (p := ⟨gb274, 0, none⟩) (Kd.R_types HO269.out BK274.out (by decide)) (fun _ hk => hk.2) (.slice Ao27 t263.length co27)) (fun _ hk => hk.2) (.slice Ao26 t267.length co26)) (fun _ hk => hk.2) (.slice Ao25 t271.length co25)) (fun _ h_ => h_.1))) : P := h
theorem Bc_19 {P : Prop} (h : P := by (with_reducible repeat (first | apply Kd.R_alloc | apply Kd.R_drewN | apply Kd.R_drew)); exact (Kd.R_mono (Kd.R_far (p := ⟨gb274, 2, none⟩) (Kd.R_far (p := ⟨gb274, 1, none⟩) (Kd.R_far (p := ⟨gb274, 0, none⟩) (Kd.R_types HO273.out BK274.out (by decide)) (fun _ hk => hk.2) (.slice Ao27 t263.length co27)) (fun _ hk => hk.2) (.slice Ao26 t267.length co26)) (fun _ hk => hk.2) (.slice Ao25 t271.length co25)) (fun _ h_ => h_.1))) : P := h
theorem Bc_20 {P : Prop} (h : P := by (with_reducible repeat (first | apply Kd.R_alloc | apply Kd.R_drewN | apply Kd.R_drew)); exact HO_10.out) : P := h
theorem Bc_21 {P : Prop} (h : P := by (with_reducible repeat (first | refine blk_drewN ?_ _ | refine blk_drew ?_ | refine blk_alloc ?_ _)); exact BK258.out) : P := h
theorem Bc_22 {P : Prop} (h : P := by (with_reducible repeat (first | refine blk_drewN ?_ _ | refine blk_drew ?_ | refine blk_alloc ?_ _)); exact BK274.out) : P := h
theorem Bc_23 {P : Prop} (h : P := by (with_reducible repeat (first | refine blk_drewN ?_ _ | refine blk_drew ?_ | refine blk_alloc ?_ _)); exact BK294.out) : P := h
theorem Bc_24 {P : Prop} (h : P := by repeat (first | exact Drawn0.refl _ | apply Drawn0.step)) : P := h
theorem Bc_25 {P : Prop} (h : P := by exact ⟨(blk_cell BK283.out 0).trans rfl, (blk_cell BK283.out 1).trans rfl, (blk_cell BK283.out 2).trans rfl⟩) : P := h
theorem Bc_26 {P : Prop} (h : P := by (with_reducible repeat (first | refine blk_drewN ?_ _ | refine blk_drew ?_ | refine blk_alloc ?_ _)); exact BK283.out) : P := h
theorem Bc_27 {P : Prop} (h : P := by (with_reducible repeat (first | refine blk_drewN ?_ _ | refine blk_drew ?_ | refine blk_alloc ?_ _)); exact BK284.out) : P := h
theorem Bc_28 {P : Prop} (h : P := by have := HK1.out; omega) : P := h
theorem Bc_29 {P : Prop} (h : P := by first | omega | exact Nat.le_refl _) : P := h
theorem Bc_30 {P : Prop} (h : P := by (with_reducible repeat (first | apply Kd.R_alloc | apply Kd.R_drewN | apply Kd.R_drew)); exact HO245.out) : P := h
theorem Bc_31 {P : Prop} (h : P := by (with_reducible repeat (first | apply Kd.R_alloc | apply Kd.R_drewN | apply Kd.R_drew)); exact HO290.out) : P := h
def impl_uncommas.l0 : Nat → List Int → List ByteArray → Int → Int → Option (List Int)
 | 0, _, _, _, _ => none
 | k + 1, x3, x10, x11, x12 => if x12 < x11 then (if 0 ≤ x12 then (if x12 < (x10.length : Int) then ((impl_ReadDecimal.f k (rdOf ByteArray.empty x10 x12)).bind fun bt250 => (if bt250.2 = true then (if x3.length < 17592186044416 then (impl_uncommas.l0 k (x3 ++ [bt250.1]) x10 x11 (wrap64 (x12 + 1))) else (none)) else (if x3.length < 17592186044416 then (impl_uncommas.l0 k (x3 ++ [(-1)]) x10 x11 (wrap64 (x12 + 1))) else (none)))) else (none)) else (none)) else (some x3)
def impl_uncommas.f (k : Nat) (a0 : ByteArray) : Option (List Int) := (impl_cut.f k a0 44).bind fun t246 => (impl_uncommas.l0 k (([] : List Int)) t246 (t246.length : Int) 0)
theorem impl_uncommas.mono_l : ∀ k, (∀ y0 y1 y2 y3, LeO (impl_uncommas.l0 k y0 y1 y2 y3) (impl_uncommas.l0 (k + 1) y0 y1 y2 y3))
 | 0 => fun _ _ _ _ r h => by simp [impl_uncommas.l0] at h
 | k + 1 => by
  have ih0 := impl_uncommas.mono_l k
  ·intro y0 y1 y2 y3
   unfold impl_uncommas.l0
   repeat' first
   | (with_reducible exact ih0 _ _ _ _)
   | (with_reducible exact impl_ReadDecimal.mono _ _)
   | (with_reducible exact impl_cut.mono _ _ _)
   | (with_reducible exact LeO.refl _)
   | (with_reducible exact LeO.none _)
   | (with_reducible refine LeO.ite ?_ ?_)
   | (with_reducible refine LeO.bind ?_ (fun _ => ?_))
   | exact ih0 _ _ _ _
   | exact impl_ReadDecimal.mono _ _
   | exact impl_cut.mono _ _ _
   | exact LeO.none _
   | refine LeO.ite ?_ ?_
   | refine LeO.bind ?_ (fun _ => ?_)
theorem impl_uncommas.mono : ∀ a0 k, LeO (impl_uncommas.f k a0) (impl_uncommas.f (k + 1) a0) := by
 intro a0 k; have ih0 := impl_uncommas.mono_l k; unfold impl_uncommas.f
 repeat' first
   | (with_reducible exact ih0 _ _ _ _)
   | (with_reducible exact impl_ReadDecimal.mono _ _)
   | (with_reducible exact impl_cut.mono _ _ _)
   | (with_reducible exact LeO.refl _)
   | (with_reducible exact LeO.none _)
   | (with_reducible refine LeO.ite ?_ ?_)
   | (with_reducible refine LeO.bind ?_ (fun _ => ?_))
   | exact ih0 _ _ _ _
   | exact impl_ReadDecimal.mono _ _
   | exact impl_cut.mono _ _ _
   | exact LeO.none _
   | refine LeO.ite ?_ ?_
   | refine LeO.bind ?_ (fun _ => ?_)
set_option maxHeartbeats 8000000 in
set_option maxRecDepth 100000 in
theorem impl_uncommas.calls (k : Nat) (a0 : ByteArray) (r : List Int) (w : World) (h : impl_uncommas.f k a0 = some r) :
  Calls Try.prog 82 #[.string a0] w fun e w' => ∃ v0_ : Value, e = .returned (v0_) ∧ Kd.R (Kd.int .i64) 3 w' w.heap.size (fun _ => True) v0_ r ∧ Below w.heap.size w w' := by
 have HB := Aside0.mk (Below.refl w.heap.size w); have H : ((impl_cut.f k a0 44).bind fun t246 => (impl_uncommas.l0 k (([] : List Int)) t246 (t246.length : Int) 0)) = some r := h; clear h; obtain ⟨y243, hy243⟩ : ∃ y_ : List Int, y_ = (([] : List Int)) := ⟨_, rfl⟩; replace H : ((impl_cut.f k a0 44).bind fun t246 => (impl_uncommas.l0 k y243 t246 (t246.length : Int) 0)) = some r := by first | (rw [hy243]; with_reducible exact H) | (have H2_ := (Option.bind_some _ _).symm.trans H; rw [hy243]; with_reducible exact H2_) | (have H2_ := (Option.bind_some _ _).symm.trans H; with_reducible exact H2_) | with_reducible exact H | (rw [hy243]; exact H) | exact H
 have Ny243 := Aside0.mk hy243; clear hy243; replace H := Option.bind_eq_some_iff.mp H; obtain ⟨t246, A20, H⟩ := H; try dsimp only at H
 have A2 := Aside0.mk A20; clear A20; have H' := Aside0.mk H; clear H; go_enter Try.func82, Try.ntmps82; go_wp2_with (first | ((with_reducible refine gate_dst (N := 8) rfl ?_); refine Kd.R_lit (Kd.int .i64) _ 3 ?hg (N := 8) ?hd (xs := ([] : List Int)) (inner := []) (ok := fun _ => True) (okp := fun _ => True) ?hr ?hp (fun _ hk => hk) trivial (Below.refl _ _) (Nat.le_refl _) (by simp) ?_; (case hd => rfl); (case hg => rfl); (case hr => first | (go_simp; done) | (go_simp; rfl)); (case hp => exact (Reps.none _ _)); intro v244 w3 ho4 hb hg_ hnew_; clear hg_ hnew_; (first | rw [← Ny243.out] at ho4 | (simp only [Int.reduceToNat] at ho4; rw [← Ny243.out] at ho4)); have HO245 := Aside0.mk (Kd.R_lower ho4 (below_size hb_)); replace HB := Aside0.mk (below_step hb_ hb); clear hb ho4) | ((with_reducible refine gate_callee (f := 75) rfl ?_); refine gA_ (some 10) Try.func75 (impl_cut.calls _ _ _ _ _ A2.out) ?_; rintro e w5 ⟨v247, rfl, ho0, hb⟩; refine ⟨_, rfl, ?_⟩; replace HO245 := Aside0.mk (Kd.R_below Bc_30 hb); have HO248 := Aside0.mk (Kd.R_lower ho0 (below_size hb_)); replace HB := Aside0.mk (below_step hb_ hb); (try clear hb); (try clear hb2); (try clear hk); (try clear hi); (try clear ho0); obtain ⟨Ao6, co6, eo6⟩ := Kd.R_slice HO248.out; subst eo6)); go_loopg [3, 12] k (fun kq v3 v12 w' => ∃ (x3_1 : List Int) (x12_1 : Int), v12 = .int .i64 x12_1 ∧ Aside0 (impl_uncommas.l0 kq x3_1 t246 (t246.length : Int) x12_1 = some r) ∧ Aside0 (kq ≤ k) ∧ Aside0 (Kd.R (Kd.int .i64) 3 w' w.heap.size (fun _ => True) v3 x3_1) ∧ Aside0 (Kd.R Kd.string 9 w' w.heap.size (fun _ => True) (.slice Ao6 t246.length co6) t246) ∧ Aside0 (Below w.heap.size w w'))
 case atStart => exact ⟨(y243), (0), Bc_9, H', ⟨Nat.le_refl _⟩, ⟨Bc_30⟩, ⟨(by (with_reducible repeat (first | apply Kd.R_alloc | apply Kd.R_drewN | apply Kd.R_drew)); exact HO248.out)⟩, ⟨hb_⟩⟩
 case round =>
  clear H'; try clear p2
  obtain ⟨x3_1, x12_1, rfl, HA, HK1, HO_3, HO_10, HB⟩ := hrel; cases gk with
  | zero => exact absurd HA.out (by simp [impl_uncommas.l0])
  | succ k1 =>
   have H := HA.out; clear HA; simp only [impl_uncommas.l0] at H; by_cases c7 : x12_1 < (t246.length : Int)
   ·rw [if_pos c7] at H
    have c7b0 : decide (x12_1 < (t246.length : Int)) = true := decide_eq_true c7; clear c7; by_cases c8 : 0 ≤ x12_1
    ·rw [if_pos c8] at H
     have c8b0 : decide (0 ≤ x12_1) = true := decide_eq_true c8; clear c8; by_cases c9 : x12_1 < (t246.length : Int)
     ·rw [if_pos c9] at H
      have c9b0 : decide (x12_1 < (t246.length : Int)) = true := decide_eq_true c9; clear c9; replace H := Option.bind_eq_some_iff.mp H; obtain ⟨⟨t250, t251⟩, A100, H⟩ := H; try dsimp only at H
      have A10 := Aside0.mk A100; clear A100; have HC11 := Aside0.mk H; clear H; have p249 : 0 ≤ (x12_1 : Int) := of_decide_eq_true Bc_8; have q249 : x12_1 < (t246.length : Int) := of_decide_eq_true Bc_8; obtain ⟨ad249, e249, hx249_0⟩ := Kd.at_string (Kd.R_reads' HO_10.out).2.2 x12_1 p249 q249; cases e249; replace p249 := eq_true p249; replace q249 := eq_true q249; go_upto_if 22 with (first | ((with_reducible refine gate_callee (f := 74) rfl ?_); refine gA_ (some 18) Try.func74 (impl_ReadDecimal.calls _ _ _ _ _ A10.out) ?_; rintro e w12 ⟨rfl, hb⟩; refine ⟨_, rfl, ?_⟩; replace HO_3 := Aside0.mk (Kd.R_below Bc_11 hb); replace HO_10 := Aside0.mk (Kd.R_below Bc_20 hb); replace HB := Aside0.mk (below_step hb_ hb); (try clear hb); (try clear hb2); (try clear hk); (try clear hi)))
      (try simp only [Act.put, List.setIfInBounds_toArray, List.set_cons_zero, List.set_cons_succ]); have H := HC11.out; clear HC11; by_cases c13 : t251 = true
      ·subst c13
       rw [if_pos rfl] at H; by_cases c14 : x3_1.length < 17592186044416
       ·rw [if_pos c14] at H
        have LMc14 := Aside0.mk c14; clear c14; obtain ⟨y252, hy252⟩ : ∃ y_ : List Int, y_ = (x3_1 ++ [t250]) := ⟨_, rfl⟩; replace H : (impl_uncommas.l0 k1 y252 t246 (t246.length : Int) (wrap64 (x12_1 + 1))) = some r := by first | (rw [hy252]; with_reducible exact H) | (have H2_ := (Option.bind_some _ _).symm.trans H; rw [hy252]; with_reducible exact H2_) | (have H2_ := (Option.bind_some _ _).symm.trans H; with_reducible exact H2_) | with_reducible exact H | (rw [hy252]; exact H) | exact H
        have Ny252 := Aside0.mk hy252; clear hy252; have H' := Aside0.mk H; clear H; go_wp2_with (first | ((with_reducible refine gate_builtin (b := .append) (xs := #[.tmp 23, .tmp 25]) rfl ?_); at_builtin; refine Kd.R_append (Kd.int .i64) (w0 := w) w.heap.size rfl (.tmp 23) (.tmp 25) 37 3 (.int .i64 0) 8 rfl Try.underlying37 info3 rfl (by decide) (by omega) u3 x3_1 t250 [.int .i64 t250] (fun _ => True) (fun _ => False) rfl rfl ?aP (fun _ hk => hk.elim) ?aF ?aO ?aB ?aS ?aL ?_; (case aP => exact rfl); (case aB => exact hb_); (case aF => exact (fun _ _ => trivial)); (case aO => exact Bc_11); (case aS => exact (below_size hb_)); (case aL => have := LMc14.out; omega); intro v253 w15 ho hb hg hat; rw [← Ny252.out] at ho; replace HO_10 := Aside0.mk (Kd.R_over' Bc_20 (Kd.R_typed Bc_11) (by decide) hg); replace HB := Aside0.mk (hb); have HO254 := Aside0.mk (ho); clear HO_3; clear ho hb hg hat)); go_roundg k1
        case measure => have := HK1.out; omega
        case rel => exact ⟨(y252), (wrap64 (x12_1 + 1)), Bc_9, H', ⟨Bc_28⟩, ⟨(by (with_reducible repeat (first | apply Kd.R_alloc | apply Kd.R_drewN | apply Kd.R_drew)); exact HO254.out)⟩, ⟨Bc_20⟩, ⟨hb_⟩⟩
       ·rw [if_neg c14] at H
        exact absurd H (by simp)
      ·replace c13 := Bool.eq_false_iff.mpr c13
       subst c13; rw [if_neg (show ¬ (false = true) by decide)] at H; by_cases c16 : x3_1.length < 17592186044416
       ·rw [if_pos c16] at H
        have LMc16 := Aside0.mk c16; clear c16; obtain ⟨y255, hy255⟩ : ∃ y_ : List Int, y_ = (x3_1 ++ [(-1)]) := ⟨_, rfl⟩; replace H : (impl_uncommas.l0 k1 y255 t246 (t246.length : Int) (wrap64 (x12_1 + 1))) = some r := by first | (rw [hy255]; with_reducible exact H) | (have H2_ := (Option.bind_some _ _).symm.trans H; rw [hy255]; with_reducible exact H2_) | (have H2_ := (Option.bind_some _ _).symm.trans H; with_reducible exact H2_) | with_reducible exact H | (rw [hy255]; exact H) | exact H
        have Ny255 := Aside0.mk hy255; clear hy255; have H' := Aside0.mk H; clear H; go_wp2_with (first | ((with_reducible refine gate_builtin (b := .append) (xs := #[.tmp 23, .tmp 25]) rfl ?_); at_builtin; refine Kd.R_append (Kd.int .i64) (w0 := w) w.heap.size rfl (.tmp 23) (.tmp 25) 37 3 (.int .i64 0) 8 rfl Try.underlying37 info3 rfl (by decide) (by omega) u3 x3_1 (-1) [.int .i64 (-1)] (fun _ => True) (fun _ => False) rfl rfl ?aP (fun _ hk => hk.elim) ?aF ?aO ?aB ?aS ?aL ?_; (case aP => exact rfl); (case aB => exact hb_); (case aF => exact (fun _ _ => trivial)); (case aO => exact Bc_11); (case aS => exact (below_size hb_)); (case aL => have := LMc16.out; omega); intro v256 w17 ho hb hg hat; rw [← Ny255.out] at ho; replace HO_10 := Aside0.mk (Kd.R_over' Bc_20 (Kd.R_typed Bc_11) (by decide) hg); replace HB := Aside0.mk (hb); have HO257 := Aside0.mk (ho); clear HO_3; clear ho hb hg hat)); go_roundg k1
        case measure => have := HK1.out; omega
        case rel => exact ⟨(y255), (wrap64 (x12_1 + 1)), Bc_9, H', ⟨Bc_28⟩, ⟨(by (with_reducible repeat (first | apply Kd.R_alloc | apply Kd.R_drewN | apply Kd.R_drew)); exact HO257.out)⟩, ⟨Bc_20⟩, ⟨hb_⟩⟩
       ·rw [if_neg c16] at H
        exact absurd H (by simp)
     ·rw [if_neg c9] at H
      exact absurd H (by simp)
    ·rw [if_neg c8] at H
     exact absurd H (by simp)
   ·rw [if_neg c7] at H
    have c7b0 : decide (x12_1 < (t246.length : Int)) = false := decide_eq_false c7; clear c7; obtain rfl := Option.some.inj H; go_wp2; go_ret; exact ⟨_, Bc_4, Bc_11, hb_⟩
end Go.Proofs.Ytjmhhgnknjfnlaa.PFnLayouts
namespace Go.Proofs.Ytjmhhgnknjfnlaa.PFnLayouts
open Go.RowKit Go.Proofs.YtjmhhgnknjfnlaaW.PrintWords Go.Proofs.YtjmhhgnknjfnlaaW.PrintLast Go.Proofs.YtjmhhgnknjfnlaaW.PrintMore
attribute [local go_sem] max2_int min2_int max_two min_two max_three min_three max_four min_four
set_option linter.unusedVariables false
set_option linter.unusedSimpArgs false
def impl_ReadLayout.f (k : Nat) (a0 : ByteArray) : Option (List Int × List Int × List Int × Bool) := (impl_cut.f k a0 47).bind fun t259 => (if (t259.length : Int) = 3 then (if 0 < (t259.length : Int) then ((impl_uncommas.f k (rdOf ByteArray.empty t259 0)).bind fun t263 => (if 1 < (t259.length : Int) then ((impl_uncommas.f k (rdOf ByteArray.empty t259 1)).bind fun t267 => (if 2 < (t259.length : Int) then ((impl_uncommas.f k (rdOf ByteArray.empty t259 2)).bind fun t271 => ((impl_LayoutText.f k t263 t267 t271).bind fun bt275 => (if bt275.2 = true then (if bt275.1.toList = a0.toList then (some (t263, t267, t271, true)) else (some (([] : List Int), ([] : List Int), ([] : List Int), false))) else (some (([] : List Int), ([] : List Int), ([] : List Int), false))))) else (none))) else (none))) else (none)) else (some (([] : List Int), ([] : List Int), ([] : List Int), false)))
theorem impl_ReadLayout.mono : ∀ a0 k, LeO (impl_ReadLayout.f k a0) (impl_ReadLayout.f (k + 1) a0) := by
 intro a0 k; unfold impl_ReadLayout.f
 repeat' first
   | (with_reducible exact impl_LayoutText.mono _ _ _ _)
   | (with_reducible exact impl_cut.mono _ _ _)
   | (with_reducible exact impl_uncommas.mono _ _)
   | (with_reducible exact LeO.refl _)
   | (with_reducible exact LeO.none _)
   | (with_reducible refine LeO.ite ?_ ?_)
   | (with_reducible refine LeO.bind ?_ (fun _ => ?_))
   | exact impl_LayoutText.mono _ _ _ _
   | exact impl_cut.mono _ _ _
   | exact impl_uncommas.mono _ _
   | exact LeO.none _
   | refine LeO.ite ?_ ?_
   | refine LeO.bind ?_ (fun _ => ?_)
def impl_ReadLayout.T4 : Bool × List (List Nat × List Nat) := (true, [([], []), ([0], [0]), ([1], [1]), ([2], [2]), ([], []), ([4], [4]), ([5], [5]), ([6, 3], [6]), ([], []), ([8], [8]), ([9], [9]), ([10, 7], [10]), ([3, 7, 11], [3, 7, 11]), ([], []), ([13, 12, 11, 0, 1, 2, 3, 4, 5, 6, 7, 8, 9, 10, 11, 12, 13], [12, 13])])
def impl_ReadLayout.B4 : List Nat := [0, 1, 3, 7, 0, 16, 48, 127, 0, 256, 768, 2047, 4095, 0, 16383]
theorem impl_ReadLayout.tab4 : rtab .any (opsOf Try.f24 4) = impl_ReadLayout.T4 := by kernel_rfl
theorem impl_ReadLayout.bits4 : waitsOk impl_ReadLayout.T4.2 impl_ReadLayout.B4 = true := by kernel_rfl
set_option maxHeartbeats 8000000 in
set_option maxRecDepth 100000 in
theorem impl_ReadLayout.calls (k : Nat) (a0 : ByteArray) (r1 : List Int) (r2 : List Int) (r3 : List Int) (r4 : Bool) (w : World) (h : impl_ReadLayout.f k a0 = some (r1, r2, r3, r4)) :
  Calls Try.prog 24 #[.string a0] w fun e w' => ∃ v0_ v1_ v2_ : Value, e = .returned (.tuple #[.agg #[v0_, v1_, v2_], .bool r4]) ∧ Kd.R (Kd.int .i64) 3 w' w.heap.size (fun k_ => some k_ ≠ (v1_ : Value).ownBlock ∧ some k_ ≠ (v2_ : Value).ownBlock) v0_ r1 ∧ Kd.R (Kd.int .i64) 3 w' w.heap.size (fun k_ => some k_ ≠ (v0_ : Value).ownBlock ∧ some k_ ≠ (v2_ : Value).ownBlock) v1_ r2 ∧ Kd.R (Kd.int .i64) 3 w' w.heap.size (fun k_ => some k_ ≠ (v0_ : Value).ownBlock ∧ some k_ ≠ (v1_ : Value).ownBlock) v2_ r3 ∧ Below w.heap.size w w' := by
 have hu39 := Try.underlying39; have HB := Aside0.mk (Below.refl w.heap.size w); have H : ((impl_cut.f k a0 47).bind fun t259 => (if (t259.length : Int) = 3 then (if 0 < (t259.length : Int) then ((impl_uncommas.f k (rdOf ByteArray.empty t259 0)).bind fun t263 => (if 1 < (t259.length : Int) then ((impl_uncommas.f k (rdOf ByteArray.empty t259 1)).bind fun t267 => (if 2 < (t259.length : Int) then ((impl_uncommas.f k (rdOf ByteArray.empty t259 2)).bind fun t271 => ((impl_LayoutText.f k t263 t267 t271).bind fun bt275 => (if bt275.2 = true then (if bt275.1.toList = a0.toList then (some (t263, t267, t271, true)) else (some (([] : List Int), ([] : List Int), ([] : List Int), false))) else (some (([] : List Int), ([] : List Int), ([] : List Int), false))))) else (none))) else (none))) else (none)) else (some (([] : List Int), ([] : List Int), ([] : List Int), false)))) = some (r1, r2, r3, r4) := h; clear h; replace H := Option.bind_eq_some_iff.mp H; obtain ⟨t259, A20, H⟩ := H; try dsimp only at H
 have A2 := Aside0.mk A20; clear A20; have HC3 := Aside0.mk H; clear H; go_enter Try.func24, Try.ntmps24; go_upto_if 12 with (first | ((with_reducible refine gate_dst (N := 2) rfl ?_); refine bx_ (N := 2) (cs := #[.slice none 0 0, .slice none 0 0, .slice none 0 0]) (t := 39) ?_; intro gb258 hg w4 hbox hb; have BK258 := Aside0.mk (hbox); have GW258 := gw_ hg hb_; have GE258 := gw_ hg hb_; replace HB := Aside0.mk (below_step hb_ hb); clear hb hbox hg) | ((with_reducible refine gate_callee (f := 75) rfl ?_); refine gA_ (some 9) Try.func75 (impl_cut.calls _ _ _ _ _ A2.out) ?_; rintro e w5 ⟨v260, rfl, ho0, hb⟩; refine ⟨_, rfl, ?_⟩; have HO261 := Aside0.mk (Kd.R_lower ho0 (below_size hb_)); replace BK258 := bb_ BK258 hb; replace HB := Aside0.mk (below_step hb_ hb); (try clear hb); (try clear hb2); (try clear hk); (try clear hi); (try clear ho0); obtain ⟨Ao6, co6, eo6⟩ := Kd.R_slice HO261.out; subst eo6))
 (try simp only [Act.put, List.setIfInBounds_toArray, List.set_cons_zero, List.set_cons_succ]); have H := HC3.out; clear HC3; by_cases c7 : (t259.length : Int) = 3
 ·rw [if_pos c7] at H
  have c7b0 : ((t259.length : Int) == 3) = true := beq_iff_eq.mpr c7; have c7b1 : ((t259.length : Int) != 3) = false := bne_eq_false_iff_eq.mpr c7; clear c7; (first | rw [c7b0] | (simp only [i64_w, i32_w]; rw [c7b0]) | skip); by_cases c8 : 0 < (t259.length : Int)
  ·rw [if_pos c8] at H
   have c8b0 : decide (0 < (t259.length : Int)) = true := decide_eq_true c8; have c8b1 : decide (0 < t259.length) = true := decide_eq_true (by omega); clear c8; replace H := Option.bind_eq_some_iff.mp H; obtain ⟨t263, A90, H⟩ := H; try dsimp only at H
   have A9 := Aside0.mk A90; clear A90; by_cases c10 : 1 < (t259.length : Int)
   ·rw [if_pos c10] at H
    have c10b0 : decide (1 < (t259.length : Int)) = true := decide_eq_true c10; have c10b1 : decide (1 < t259.length) = true := decide_eq_true (by omega); clear c10; replace H := Option.bind_eq_some_iff.mp H; obtain ⟨t267, A110, H⟩ := H; try dsimp only at H
    have A11 := Aside0.mk A110; clear A110; by_cases c12 : 2 < (t259.length : Int)
    ·rw [if_pos c12] at H
     have c12b0 : decide (2 < (t259.length : Int)) = true := decide_eq_true c12; have c12b1 : decide (2 < t259.length) = true := decide_eq_true (by omega); clear c12; replace H := Option.bind_eq_some_iff.mp H; obtain ⟨t271, A130, H⟩ := H; try dsimp only at H
     have A13 := Aside0.mk A130; clear A130; replace H := Option.bind_eq_some_iff.mp H; obtain ⟨⟨t275, t276⟩, A140, H⟩ := H; try dsimp only at H
     have A14 := Aside0.mk A140; clear A140; have HC15 := Aside0.mk H; clear H; try go_wp2
     replace HO261 := Aside0.mk (Kd.R_drew HO261.out); replace BK258 := Aside0.mk (blk_drew BK258.out); replace HB := Aside0.mk (below_drew1 HB.out); have p262 : 0 ≤ (0 : Int) := (by omega); have q262 : 0 < (t259.length : Int) := of_decide_eq_true Bc_8; obtain ⟨ad262, e262, hx262_0⟩ := Kd.at_string (Kd.R_reads' HO261.out).2.2 0 p262 q262; cases e262; have qi262 : (0 < t259.length) = True := eq_true (by omega); (try rw [show ((0 : Int)).toNat = 0 from rfl] at hx262_0); (try rw [Addr.add_zero'] at hx262_0); replace p262 := eq_true p262; replace q262 := eq_true q262; have p266 : 0 ≤ (1 : Int) := (by omega); have q266 : 1 < (t259.length : Int) := of_decide_eq_true Bc_8; obtain ⟨ad266, e266, hx266_0⟩ := Kd.at_string (Kd.R_reads' HO261.out).2.2 1 p266 q266; obtain rfl : ad262 = ad266 := (by injection e266); (try simp only [show (1 : Int).toNat = 1 from rfl, Nat.reduceMul, Nat.reduceEqDiff, Go.Addr.add, ↓reduceIte] at hx266_0); have qi266 : (1 < t259.length) = True := eq_true (by omega); (try rw [show ((1 : Int)).toNat = 1 from rfl] at hx266_0); replace p266 := eq_true p266; replace q266 := eq_true q266; have p270 : 0 ≤ (2 : Int) := (by omega); have q270 : 2 < (t259.length : Int) := of_decide_eq_true Bc_8; obtain ⟨ad270, e270, hx270_0⟩ := Kd.at_string (Kd.R_reads' HO261.out).2.2 2 p270 q270; obtain rfl : ad262 = ad270 := (by injection e270); (try simp only [show (2 : Int).toNat = 2 from rfl, Nat.reduceMul, Nat.reduceEqDiff, Go.Addr.add, ↓reduceIte] at hx270_0); have qi270 : (2 < t259.length) = True := eq_true (by omega); (try rw [show ((2 : Int)).toNat = 2 from rfl] at hx270_0); replace p270 := eq_true p270; replace q270 := eq_true q270; refine start_ (n := 15) (S := fun w' => w'.cell? ad262 = some (.string (rdOf ByteArray.empty t259 0)) ∧ w'.cell? ⟨ad262.block, ad262.off + 1, none⟩ = some (.string (rdOf ByteArray.empty t259 1)) ∧ w'.cell? ⟨ad262.block, ad262.off + 2, none⟩ = some (.string (rdOf ByteArray.empty t259 2))) (ds := []) u15_0 (by kernel_rfl) rfl rfl ⟨hx262_0, hx266_0, hx270_0⟩ (fun hHeld => ?_); refine with_tabW impl_ReadLayout.tab4 impl_ReadLayout.bits4 (fun HT_ HW_ => ?_); generalize w5.drew = w16 at HO261 BK258 HB hx262_0 hx266_0 hx270_0 hHeld ⊢
     refine pu_ HT_.out 0 (some 14) u15_1 ?_; refine pu_ HT_.out 1 (some 15) u15_2 ?_; refine pu_ HT_.out 4 (some 18) u15_6400x ?_; refine pu_ HT_.out 5 (some 19) u15_6600x ?_; refine pu_ HT_.out 8 (some 22) u15_6640x ?_; refine pu_ HT_.out 9 (some 23) u15_6660x ?_; refine take_ (i := 2) (N := some 16) (v := ?_) (a' := ?_) u15_7660x rfl rfl (take_ofW HT_.out HW_.out (by kernel_rfl)) (fun _ _ _ h => h) (Or.inl ⟨(by rfl), ?_⟩) hHeld ?_ ?_; rotate_left
     ·rintro w' ⟨s0, s1, s2⟩
      go_simp; with_reducible rfl
     rotate_left
     ·simp only [Act.put, List.setIfInBounds_toArray, List.set_cons_zero, List.set_cons_succ, i64_w, i32_w]
      rfl
     refine take_ (i := 6) (N := some 20) (v := ?_) (a' := ?_) u15_7760x rfl rfl (take_ofW HT_.out HW_.out (by kernel_rfl)) (fun _ _ _ h => h) (Or.inl ⟨(by rfl), ?_⟩) hHeld ?_ ?_; rotate_left
     ·rintro w' ⟨s0, s1, s2⟩
      go_simp; with_reducible rfl
     rotate_left
     ·simp only [Act.put, List.setIfInBounds_toArray, List.set_cons_zero, List.set_cons_succ, i64_w, i32_w]
      rfl
     refine take_ (i := 10) (N := some 24) (v := ?_) (a' := ?_) u15_7770x rfl rfl (take_ofW HT_.out HW_.out (by kernel_rfl)) (fun _ _ _ h => h) (Or.inl ⟨(by rfl), ?_⟩) hHeld ?_ ?_; rotate_left
     ·rintro w' ⟨s0, s1, s2⟩
      go_simp; with_reducible rfl
     rotate_left
     ·simp only [Act.put, List.setIfInBounds_toArray, List.set_cons_zero, List.set_cons_succ, i64_w, i32_w]
      rfl
     refine join_ (σ := Value × Value × Value × Nat) 1 u15_14 (fun s_ => [(17, s_.1), (21, s_.2.1), (25, s_.2.2.1), (5, .pointer (some ⟨s_.2.2.2, 0, none⟩)), (26, .agg #[s_.1, s_.2.1, s_.2.2.1])]) (fun s_ w' => (w'.cell? ad262 = some (.string (rdOf ByteArray.empty t259 0)) ∧ w'.cell? ⟨ad262.block, ad262.off + 1, none⟩ = some (.string (rdOf ByteArray.empty t259 1)) ∧ w'.cell? ⟨ad262.block, ad262.off + 2, none⟩ = some (.string (rdOf ByteArray.empty t259 2))) ∧ (Kd.R Kd.string 9 w' w.heap.size (fun _ => True) (.slice (some ad262) t259.length co6) t259) ∧ (Kd.R (Kd.int .i64) 3 w' w.heap.size (fun k_ => some k_ ≠ (s_.2.1 : Value).ownBlock ∧ some k_ ≠ (s_.2.2.1 : Value).ownBlock) s_.1 t263) ∧ (Kd.R (Kd.int .i64) 3 w' w.heap.size (fun k_ => some k_ ≠ (s_.1 : Value).ownBlock ∧ some k_ ≠ (s_.2.2.1 : Value).ownBlock) s_.2.1 t267) ∧ (Kd.R (Kd.int .i64) 3 w' w.heap.size (fun k_ => some k_ ≠ (s_.1 : Value).ownBlock ∧ some k_ ≠ (s_.2.1 : Value).ownBlock) s_.2.2.1 t271) ∧ (w'.heap[gb258]? = some (.cells #[.slice none 0 0, .slice none 0 0, .slice none 0 0] 39 (0, 0))) ∧ (w'.heap[s_.2.2.2]? = some (.cells #[.slice none 0 0, .slice none 0 0, .slice none 0 0] 39 (0, 0))) ∧ (w.heap.size ≤ s_.2.2.2) ∧ (w.heap.size ≤ s_.2.2.2) ∧ (gb258 ≠ s_.2.2.2) ∧ (s_.2.2.2 ≠ gb258) ∧ (Below w.heap.size w w')) ?_ ?_; rotate_left
     ·intro hCont
      refine two_ (i := 3) (j := 13) (Ni := some 17) (Nj := some 5) u15_7f70x u15_7772x rfl rfl rfl rfl (two_of HT_.out (by kernel_rfl)) (by decide) (by decide) (fun K hK => ?_) (fun K hK => ?_)
      ·skip
       refine goes_ Try.func82 (by kernel_rfl) rfl #[.string (rdOf ByteArray.empty t259 0)] (by rfl) rfl rfl Bc_1 ?_; with_reducible refine (impl_uncommas.calls k (rdOf ByteArray.empty t259 0) t263 _ A9.out).mono ?_
       rintro e w17 ⟨v264, rfl, ho0, hb⟩; have HS0_ := (hb.cell (World.block_lt_of_cell? _ _ (hHeld.1))).trans (hHeld.1); have HS1_ := (hb.cell (World.block_lt_of_cell? _ _ (hHeld.2.1))).trans (hHeld.2.1); have HS2_ := (hb.cell (World.block_lt_of_cell? _ _ (hHeld.2.2))).trans (hHeld.2.2); refine ⟨_, rfl, ?_⟩; replace HO261 := Aside0.mk (Kd.R_below Bc_2 hb); have HO265 := Aside0.mk (Kd.R_lower ho0 (below_size hb_)); replace BK258 := bb_ BK258 hb; replace HB := Aside0.mk (below_step hb_ hb); (try clear hb); (try clear hb2); (try clear hk); (try clear hi); (try clear ho0); refine hK.out _ _ ⟨HS0_, HS1_, HS2_⟩ (fun hHeld => ?_); clear hK K; refine no_ 17 ?_; refine two_ (i := 7) (j := 13) (Ni := some 21) (Nj := some 5) u15_11 u15_7f72x rfl rfl rfl rfl (two_of HT_.out (by kernel_rfl)) (by decide) (by decide) (fun K hK => ?_) (fun K hK => ?_)
       ·skip
        refine goes_ Try.func82 (by kernel_rfl) rfl #[.string (rdOf ByteArray.empty t259 1)] (by rfl) rfl rfl Bc_1 ?_; with_reducible refine (impl_uncommas.calls k (rdOf ByteArray.empty t259 1) t267 _ A11.out).mono ?_
        rintro e w18 ⟨v268, rfl, ho0, hb⟩; have HS0_ := (hb.cell (World.block_lt_of_cell? _ _ (hHeld.1))).trans (hHeld.1); have HS1_ := (hb.cell (World.block_lt_of_cell? _ _ (hHeld.2.1))).trans (hHeld.2.1); have HS2_ := (hb.cell (World.block_lt_of_cell? _ _ (hHeld.2.2))).trans (hHeld.2.2); refine ⟨_, rfl, ?_⟩; replace HO261 := Aside0.mk (Kd.R_below Bc_2 hb); have HO269 := Aside0.mk (Kd.R_lower (Kd.R_new' ho0 (Kd.R_lt Bc_3)) (below_size hb_)); replace HO265 := Aside0.mk (Kd.R_elder' Bc_3 (Kd.R_base ho0) hb); replace BK258 := bb_ BK258 hb; replace HB := Aside0.mk (below_step hb_ hb); (try clear hb); (try clear hb2); (try clear hk); (try clear hi); (try clear ho0); refine hK.out _ _ ⟨HS0_, HS1_, HS2_⟩ (fun hHeld => ?_); clear hK K; refine no_ 21 ?_; refine two_ (i := 11) (j := 13) (Ni := some 25) (Nj := some 5) u15_12 u15_7ff2x rfl rfl rfl rfl (two_of HT_.out (by kernel_rfl)) (by decide) (by decide) (fun K hK => ?_) (fun K hK => ?_)
        ·skip
         refine goes_ Try.func82 (by kernel_rfl) rfl #[.string (rdOf ByteArray.empty t259 2)] (by rfl) rfl rfl Bc_1 ?_; with_reducible refine (impl_uncommas.calls k (rdOf ByteArray.empty t259 2) t271 _ A13.out).mono ?_
         rintro e w19 ⟨v272, rfl, ho0, hb⟩; have HS0_ := (hb.cell (World.block_lt_of_cell? _ _ (hHeld.1))).trans (hHeld.1); have HS1_ := (hb.cell (World.block_lt_of_cell? _ _ (hHeld.2.1))).trans (hHeld.2.1); have HS2_ := (hb.cell (World.block_lt_of_cell? _ _ (hHeld.2.2))).trans (hHeld.2.2); refine ⟨_, rfl, ?_⟩; replace HO261 := Aside0.mk (Kd.R_below Bc_2 hb); have HO273 := Aside0.mk (Kd.R_lower (Kd.R_new' (Kd.R_new' ho0 (Kd.R_lt Bc_3)) (Kd.R_lt Bc_7)) (below_size hb_)); replace HO265 := Aside0.mk (Kd.R_elder' Bc_3 (Kd.R_base ho0) hb); replace HO269 := Aside0.mk (Kd.R_elder' Bc_7 (Kd.R_base ho0) hb); replace BK258 := bb_ BK258 hb; replace HB := Aside0.mk (below_step hb_ hb); (try clear hb); (try clear hb2); (try clear hk); (try clear hi); (try clear ho0); obtain ⟨Ao20, co20, eo20⟩ := Kd.R_slice HO273.out; (first | subst eo20 | (injection eo20 with f1_ f2_ f3_; have f4_ := f1_.symm; have f5_ := f3_.symm; clear f1_ f2_ f3_; subst f4_; subst f5_)); obtain ⟨Ao21, co21, eo21⟩ := Kd.R_slice HO269.out; (first | subst eo21 | (injection eo21 with f1_ f2_ f3_; have f4_ := f1_.symm; have f5_ := f3_.symm; clear f1_ f2_ f3_; subst f4_; subst f5_)); obtain ⟨Ao22, co22, eo22⟩ := Kd.R_slice HO265.out; (first | subst eo22 | (injection eo22 with f1_ f2_ f3_; have f4_ := f1_.symm; have f5_ := f3_.symm; clear f1_ f2_ f3_; subst f4_; subst f5_)); refine hK.out _ _ ⟨HS0_, HS1_, HS2_⟩ (fun hHeld => ?_); clear hK K; refine no_ 25 ?_; refine pu_ HT_.out 12 (some 26) u15_13 ?_; refine one_ (i := 13) (N := some 5) u15_14 rfl rfl (one_of HT_.out (by kernel_rfl)) (by decide) (fun K hK => ?_); refine box_step ?hg (N := 5) ?hd (cs := #[.slice none 0 0, .slice none 0 0, .slice none 0 0]) (t := 39) ?hr ?_; (case hd => rfl); (case hg => rfl); (case hr => first | (go_simp; done) | (go_simp; rfl)); intro gb274 hg w23 hbox hb; have HS0_ := (hb.cell (World.block_lt_of_cell? _ _ (hHeld.1))).trans (hHeld.1); have HS1_ := (hb.cell (World.block_lt_of_cell? _ _ (hHeld.2.1))).trans (hHeld.2.1); have HS2_ := (hb.cell (World.block_lt_of_cell? _ _ (hHeld.2.2))).trans (hHeld.2.2); replace HO261 := Aside0.mk (Kd.R_below Bc_2 hb); replace HO265 := Aside0.mk (Kd.R_below Bc_3 hb); replace HO269 := Aside0.mk (Kd.R_below Bc_7 hb); replace HO273 := Aside0.mk (Kd.R_below (by (with_reducible repeat (first | apply Kd.R_alloc | apply Kd.R_drewN | apply Kd.R_drew)); exact HO273.out) hb); have BK274 := Aside0.mk (hbox); have GW274 := gw_ hg hb_; have GE274 := gw_ hg hb_; replace HB := Aside0.mk (below_step hb_ hb); obtain ⟨NB258_274, NB274_258, BK258⟩ := nb_ hg hb BK258; clear hb hbox hg; refine hK.out _ _ ⟨HS0_, HS1_, HS2_⟩ (fun hHeld => ?_); clear hK K; refine no_ 5 ?_; exact norm_ (by simp only [putAll, Act.put, List.setIfInBounds_toArray, List.set_cons_zero, List.set_cons_succ]) (hCont (.slice Ao22 t263.length co22, .slice Ao21 t267.length co21, .slice Ao20 t271.length co20, gb274) _ ⟨hHeld, Bc_2, Bc_14, Bc_15, Bc_16, Bc_21, Bc_22, GW274.out, GE274.out, NB258_274.out, NB274_258.out, hb_⟩)
        ·skip
         refine box_step ?hg (N := 5) ?hd (cs := #[.slice none 0 0, .slice none 0 0, .slice none 0 0]) (t := 39) ?hr ?_; (case hd => rfl); (case hg => rfl); (case hr => first | (go_simp; done) | (go_simp; rfl)); intro gb274 hg w19 hbox hb; have HS0_ := (hb.cell (World.block_lt_of_cell? _ _ (hHeld.1))).trans (hHeld.1); have HS1_ := (hb.cell (World.block_lt_of_cell? _ _ (hHeld.2.1))).trans (hHeld.2.1); have HS2_ := (hb.cell (World.block_lt_of_cell? _ _ (hHeld.2.2))).trans (hHeld.2.2); replace HO261 := Aside0.mk (Kd.R_below Bc_2 hb); replace HO265 := Aside0.mk (Kd.R_below Bc_3 hb); replace HO269 := Aside0.mk (Kd.R_below Bc_7 hb); have BK274 := Aside0.mk (hbox); have GW274 := gw_ hg hb_; have GE274 := gw_ hg hb_; replace HB := Aside0.mk (below_step hb_ hb); obtain ⟨NB258_274, NB274_258, BK258⟩ := nb_ hg hb BK258; clear hb hbox hg; refine hK.out _ _ ⟨HS0_, HS1_, HS2_⟩ (fun hHeld => ?_); clear hK K; refine no_ 5 ?_; refine one_ (i := 11) (N := some 25) u15_7ffax rfl rfl (one_of HT_.out (by kernel_rfl)) (by decide) (fun K hK => ?_); refine goes_ Try.func82 (by kernel_rfl) rfl #[.string (rdOf ByteArray.empty t259 2)] (by rfl) rfl rfl Bc_1 ?_; with_reducible refine (impl_uncommas.calls k (rdOf ByteArray.empty t259 2) t271 _ A13.out).mono ?_
         rintro e w20 ⟨v272, rfl, ho0, hb⟩; have HS0_ := (hb.cell (World.block_lt_of_cell? _ _ (hHeld.1))).trans (hHeld.1); have HS1_ := (hb.cell (World.block_lt_of_cell? _ _ (hHeld.2.1))).trans (hHeld.2.1); have HS2_ := (hb.cell (World.block_lt_of_cell? _ _ (hHeld.2.2))).trans (hHeld.2.2); refine ⟨_, rfl, ?_⟩; replace HO261 := Aside0.mk (Kd.R_below Bc_2 hb); have HO273 := Aside0.mk (Kd.R_lower (Kd.R_new' (Kd.R_new' ho0 (Kd.R_lt Bc_3)) (Kd.R_lt Bc_7)) (below_size hb_)); replace HO265 := Aside0.mk (Kd.R_elder' Bc_3 (Kd.R_base ho0) hb); replace HO269 := Aside0.mk (Kd.R_elder' Bc_7 (Kd.R_base ho0) hb); replace BK258 := bb_ BK258 hb; replace BK274 := bb_ BK274 hb; replace HB := Aside0.mk (below_step hb_ hb); (try clear hb); (try clear hb2); (try clear hk); (try clear hi); (try clear ho0); obtain ⟨Ao21, co21, eo21⟩ := Kd.R_slice HO273.out; (first | subst eo21 | (injection eo21 with f1_ f2_ f3_; have f4_ := f1_.symm; have f5_ := f3_.symm; clear f1_ f2_ f3_; subst f4_; subst f5_)); obtain ⟨Ao22, co22, eo22⟩ := Kd.R_slice HO269.out; (first | subst eo22 | (injection eo22 with f1_ f2_ f3_; have f4_ := f1_.symm; have f5_ := f3_.symm; clear f1_ f2_ f3_; subst f4_; subst f5_)); obtain ⟨Ao23, co23, eo23⟩ := Kd.R_slice HO265.out; (first | subst eo23 | (injection eo23 with f1_ f2_ f3_; have f4_ := f1_.symm; have f5_ := f3_.symm; clear f1_ f2_ f3_; subst f4_; subst f5_)); refine hK.out _ _ ⟨HS0_, HS1_, HS2_⟩ (fun hHeld => ?_); clear hK K; refine no_ 25 ?_; refine pu_ HT_.out 12 (some 26) u15_14 ?_; exact norm_ (by simp only [putAll, Act.put, List.setIfInBounds_toArray, List.set_cons_zero, List.set_cons_succ]) (hCont (.slice Ao23 t263.length co23, .slice Ao22 t267.length co22, .slice Ao21 t271.length co21, gb274) _ ⟨hHeld, Bc_2, Bc_14, Bc_15, Bc_16, Bc_21, Bc_22, GW274.out, GE274.out, NB258_274.out, NB274_258.out, hb_⟩)
       ·skip
        refine box_step ?hg (N := 5) ?hd (cs := #[.slice none 0 0, .slice none 0 0, .slice none 0 0]) (t := 39) ?hr ?_; (case hd => rfl); (case hg => rfl); (case hr => first | (go_simp; done) | (go_simp; rfl)); intro gb274 hg w18 hbox hb; have HS0_ := (hb.cell (World.block_lt_of_cell? _ _ (hHeld.1))).trans (hHeld.1); have HS1_ := (hb.cell (World.block_lt_of_cell? _ _ (hHeld.2.1))).trans (hHeld.2.1); have HS2_ := (hb.cell (World.block_lt_of_cell? _ _ (hHeld.2.2))).trans (hHeld.2.2); replace HO261 := Aside0.mk (Kd.R_below Bc_2 hb); replace HO265 := Aside0.mk (Kd.R_below Bc_3 hb); have BK274 := Aside0.mk (hbox); have GW274 := gw_ hg hb_; have GE274 := gw_ hg hb_; replace HB := Aside0.mk (below_step hb_ hb); obtain ⟨NB258_274, NB274_258, BK258⟩ := nb_ hg hb BK258; clear hb hbox hg; refine hK.out _ _ ⟨HS0_, HS1_, HS2_⟩ (fun hHeld => ?_); clear hK K; refine no_ 5 ?_; refine one_ (i := 7) (N := some 21) u15_7ff2x rfl rfl (one_of HT_.out (by kernel_rfl)) (by decide) (fun K hK => ?_); refine goes_ Try.func82 (by kernel_rfl) rfl #[.string (rdOf ByteArray.empty t259 1)] (by rfl) rfl rfl Bc_1 ?_; with_reducible refine (impl_uncommas.calls k (rdOf ByteArray.empty t259 1) t267 _ A11.out).mono ?_
        rintro e w19 ⟨v268, rfl, ho0, hb⟩; have HS0_ := (hb.cell (World.block_lt_of_cell? _ _ (hHeld.1))).trans (hHeld.1); have HS1_ := (hb.cell (World.block_lt_of_cell? _ _ (hHeld.2.1))).trans (hHeld.2.1); have HS2_ := (hb.cell (World.block_lt_of_cell? _ _ (hHeld.2.2))).trans (hHeld.2.2); refine ⟨_, rfl, ?_⟩; replace HO261 := Aside0.mk (Kd.R_below Bc_2 hb); have HO269 := Aside0.mk (Kd.R_lower (Kd.R_new' ho0 (Kd.R_lt Bc_3)) (below_size hb_)); replace HO265 := Aside0.mk (Kd.R_elder' Bc_3 (Kd.R_base ho0) hb); replace BK258 := bb_ BK258 hb; replace BK274 := bb_ BK274 hb; replace HB := Aside0.mk (below_step hb_ hb); (try clear hb); (try clear hb2); (try clear hk); (try clear hi); (try clear ho0); refine hK.out _ _ ⟨HS0_, HS1_, HS2_⟩ (fun hHeld => ?_); clear hK K; refine no_ 21 ?_; refine one_ (i := 11) (N := some 25) u15_7ffax rfl rfl (one_of HT_.out (by kernel_rfl)) (by decide) (fun K hK => ?_); refine goes_ Try.func82 (by kernel_rfl) rfl #[.string (rdOf ByteArray.empty t259 2)] (by rfl) rfl rfl Bc_1 ?_; with_reducible refine (impl_uncommas.calls k (rdOf ByteArray.empty t259 2) t271 _ A13.out).mono ?_
        rintro e w20 ⟨v272, rfl, ho0, hb⟩; have HS0_ := (hb.cell (World.block_lt_of_cell? _ _ (hHeld.1))).trans (hHeld.1); have HS1_ := (hb.cell (World.block_lt_of_cell? _ _ (hHeld.2.1))).trans (hHeld.2.1); have HS2_ := (hb.cell (World.block_lt_of_cell? _ _ (hHeld.2.2))).trans (hHeld.2.2); refine ⟨_, rfl, ?_⟩; replace HO261 := Aside0.mk (Kd.R_below Bc_2 hb); have HO273 := Aside0.mk (Kd.R_lower (Kd.R_new' (Kd.R_new' ho0 (Kd.R_lt Bc_3)) (Kd.R_lt Bc_7)) (below_size hb_)); replace HO265 := Aside0.mk (Kd.R_elder' Bc_3 (Kd.R_base ho0) hb); replace HO269 := Aside0.mk (Kd.R_elder' Bc_7 (Kd.R_base ho0) hb); replace BK258 := bb_ BK258 hb; replace BK274 := bb_ BK274 hb; replace HB := Aside0.mk (below_step hb_ hb); (try clear hb); (try clear hb2); (try clear hk); (try clear hi); (try clear ho0); obtain ⟨Ao21, co21, eo21⟩ := Kd.R_slice HO273.out; (first | subst eo21 | (injection eo21 with f1_ f2_ f3_; have f4_ := f1_.symm; have f5_ := f3_.symm; clear f1_ f2_ f3_; subst f4_; subst f5_)); obtain ⟨Ao22, co22, eo22⟩ := Kd.R_slice HO269.out; (first | subst eo22 | (injection eo22 with f1_ f2_ f3_; have f4_ := f1_.symm; have f5_ := f3_.symm; clear f1_ f2_ f3_; subst f4_; subst f5_)); obtain ⟨Ao23, co23, eo23⟩ := Kd.R_slice HO265.out; (first | subst eo23 | (injection eo23 with f1_ f2_ f3_; have f4_ := f1_.symm; have f5_ := f3_.symm; clear f1_ f2_ f3_; subst f4_; subst f5_)); refine hK.out _ _ ⟨HS0_, HS1_, HS2_⟩ (fun hHeld => ?_); clear hK K; refine no_ 25 ?_; refine pu_ HT_.out 12 (some 26) u15_14 ?_; exact norm_ (by simp only [putAll, Act.put, List.setIfInBounds_toArray, List.set_cons_zero, List.set_cons_succ]) (hCont (.slice Ao23 t263.length co23, .slice Ao22 t267.length co22, .slice Ao21 t271.length co21, gb274) _ ⟨hHeld, Bc_2, Bc_14, Bc_15, Bc_16, Bc_21, Bc_22, GW274.out, GE274.out, NB258_274.out, NB274_258.out, hb_⟩)
      ·skip
       refine box_step ?hg (N := 5) ?hd (cs := #[.slice none 0 0, .slice none 0 0, .slice none 0 0]) (t := 39) ?hr ?_; (case hd => rfl); (case hg => rfl); (case hr => first | (go_simp; done) | (go_simp; rfl)); intro gb274 hg w17 hbox hb; have HS0_ := (hb.cell (World.block_lt_of_cell? _ _ (hHeld.1))).trans (hHeld.1); have HS1_ := (hb.cell (World.block_lt_of_cell? _ _ (hHeld.2.1))).trans (hHeld.2.1); have HS2_ := (hb.cell (World.block_lt_of_cell? _ _ (hHeld.2.2))).trans (hHeld.2.2); replace HO261 := Aside0.mk (Kd.R_below Bc_2 hb); have BK274 := Aside0.mk (hbox); have GW274 := gw_ hg hb_; have GE274 := gw_ hg hb_; replace HB := Aside0.mk (below_step hb_ hb); obtain ⟨NB258_274, NB274_258, BK258⟩ := nb_ hg hb BK258; clear hb hbox hg; refine hK.out _ _ ⟨HS0_, HS1_, HS2_⟩ (fun hHeld => ?_); clear hK K; refine no_ 5 ?_; refine one_ (i := 3) (N := some 17) u15_7f72x rfl rfl (one_of HT_.out (by kernel_rfl)) (by decide) (fun K hK => ?_); refine goes_ Try.func82 (by kernel_rfl) rfl #[.string (rdOf ByteArray.empty t259 0)] (by rfl) rfl rfl Bc_1 ?_; with_reducible refine (impl_uncommas.calls k (rdOf ByteArray.empty t259 0) t263 _ A9.out).mono ?_
       rintro e w18 ⟨v264, rfl, ho0, hb⟩; have HS0_ := (hb.cell (World.block_lt_of_cell? _ _ (hHeld.1))).trans (hHeld.1); have HS1_ := (hb.cell (World.block_lt_of_cell? _ _ (hHeld.2.1))).trans (hHeld.2.1); have HS2_ := (hb.cell (World.block_lt_of_cell? _ _ (hHeld.2.2))).trans (hHeld.2.2); refine ⟨_, rfl, ?_⟩; replace HO261 := Aside0.mk (Kd.R_below Bc_2 hb); have HO265 := Aside0.mk (Kd.R_lower ho0 (below_size hb_)); replace BK258 := bb_ BK258 hb; replace BK274 := bb_ BK274 hb; replace HB := Aside0.mk (below_step hb_ hb); (try clear hb); (try clear hb2); (try clear hk); (try clear hi); (try clear ho0); refine hK.out _ _ ⟨HS0_, HS1_, HS2_⟩ (fun hHeld => ?_); clear hK K; refine no_ 17 ?_; refine one_ (i := 7) (N := some 21) u15_7ff2x rfl rfl (one_of HT_.out (by kernel_rfl)) (by decide) (fun K hK => ?_); refine goes_ Try.func82 (by kernel_rfl) rfl #[.string (rdOf ByteArray.empty t259 1)] (by rfl) rfl rfl Bc_1 ?_; with_reducible refine (impl_uncommas.calls k (rdOf ByteArray.empty t259 1) t267 _ A11.out).mono ?_
       rintro e w19 ⟨v268, rfl, ho0, hb⟩; have HS0_ := (hb.cell (World.block_lt_of_cell? _ _ (hHeld.1))).trans (hHeld.1); have HS1_ := (hb.cell (World.block_lt_of_cell? _ _ (hHeld.2.1))).trans (hHeld.2.1); have HS2_ := (hb.cell (World.block_lt_of_cell? _ _ (hHeld.2.2))).trans (hHeld.2.2); refine ⟨_, rfl, ?_⟩; replace HO261 := Aside0.mk (Kd.R_below Bc_2 hb); have HO269 := Aside0.mk (Kd.R_lower (Kd.R_new' ho0 (Kd.R_lt Bc_3)) (below_size hb_)); replace HO265 := Aside0.mk (Kd.R_elder' Bc_3 (Kd.R_base ho0) hb); replace BK258 := bb_ BK258 hb; replace BK274 := bb_ BK274 hb; replace HB := Aside0.mk (below_step hb_ hb); (try clear hb); (try clear hb2); (try clear hk); (try clear hi); (try clear ho0); refine hK.out _ _ ⟨HS0_, HS1_, HS2_⟩ (fun hHeld => ?_); clear hK K; refine no_ 21 ?_; refine one_ (i := 11) (N := some 25) u15_7ffax rfl rfl (one_of HT_.out (by kernel_rfl)) (by decide) (fun K hK => ?_); refine goes_ Try.func82 (by kernel_rfl) rfl #[.string (rdOf ByteArray.empty t259 2)] (by rfl) rfl rfl Bc_1 ?_; with_reducible refine (impl_uncommas.calls k (rdOf ByteArray.empty t259 2) t271 _ A13.out).mono ?_
       rintro e w20 ⟨v272, rfl, ho0, hb⟩; have HS0_ := (hb.cell (World.block_lt_of_cell? _ _ (hHeld.1))).trans (hHeld.1); have HS1_ := (hb.cell (World.block_lt_of_cell? _ _ (hHeld.2.1))).trans (hHeld.2.1); have HS2_ := (hb.cell (World.block_lt_of_cell? _ _ (hHeld.2.2))).trans (hHeld.2.2); refine ⟨_, rfl, ?_⟩; replace HO261 := Aside0.mk (Kd.R_below Bc_2 hb); have HO273 := Aside0.mk (Kd.R_lower (Kd.R_new' (Kd.R_new' ho0 (Kd.R_lt Bc_3)) (Kd.R_lt Bc_7)) (below_size hb_)); replace HO265 := Aside0.mk (Kd.R_elder' Bc_3 (Kd.R_base ho0) hb); replace HO269 := Aside0.mk (Kd.R_elder' Bc_7 (Kd.R_base ho0) hb); replace BK258 := bb_ BK258 hb; replace BK274 := bb_ BK274 hb; replace HB := Aside0.mk (below_step hb_ hb); (try clear hb); (try clear hb2); (try clear hk); (try clear hi); (try clear ho0); obtain ⟨Ao21, co21, eo21⟩ := Kd.R_slice HO273.out; (first | subst eo21 | (injection eo21 with f1_ f2_ f3_; have f4_ := f1_.symm; have f5_ := f3_.symm; clear f1_ f2_ f3_; subst f4_; subst f5_)); obtain ⟨Ao22, co22, eo22⟩ := Kd.R_slice HO269.out; (first | subst eo22 | (injection eo22 with f1_ f2_ f3_; have f4_ := f1_.symm; have f5_ := f3_.symm; clear f1_ f2_ f3_; subst f4_; subst f5_)); obtain ⟨Ao23, co23, eo23⟩ := Kd.R_slice HO265.out; (first | subst eo23 | (injection eo23 with f1_ f2_ f3_; have f4_ := f1_.symm; have f5_ := f3_.symm; clear f1_ f2_ f3_; subst f4_; subst f5_)); refine hK.out _ _ ⟨HS0_, HS1_, HS2_⟩ (fun hHeld => ?_); clear hK K; refine no_ 25 ?_; refine pu_ HT_.out 12 (some 26) u15_14 ?_; exact norm_ (by simp only [putAll, Act.put, List.setIfInBounds_toArray, List.set_cons_zero, List.set_cons_succ]) (hCont (.slice Ao23 t263.length co23, .slice Ao22 t267.length co22, .slice Ao21 t271.length co21, gb274) _ ⟨hHeld, Bc_2, Bc_14, Bc_15, Bc_16, Bc_21, Bc_22, GW274.out, GE274.out, NB258_274.out, NB274_258.out, hb_⟩)
     rintro ⟨v264, v268, v272, gb274⟩ w24 ⟨hS_, h0_, h1_, h2_, h3_, h4_, h5_, h6_, h7_, h8_, h9_, h10_⟩; (try dsimp only at hS_ h0_ h1_ h2_ h3_ h4_ h5_ h6_ h7_ h8_ h9_ h10_); replace HO261 := Aside0.mk h0_; have HO265 := Aside0.mk h1_; have HO269 := Aside0.mk h2_; have HO273 := Aside0.mk h3_; replace BK258 := Aside0.mk h4_; have BK274 := Aside0.mk h5_; have GW274 := Aside0.mk h6_; have GE274 := Aside0.mk h7_; have NB258_274 := Aside0.mk h8_; have NB274_258 := Aside0.mk h9_; replace HB := Aside0.mk h10_; clear h0_ h1_ h2_ h3_ h4_ h5_ h6_ h7_ h8_ h9_ h10_; have hHeld := hS_; obtain ⟨Ao25, co25, eo25⟩ := Kd.R_slice HO273.out; (first | subst eo25 | (injection eo25 with f1_ f2_ f3_; have f4_ := f1_.symm; have f5_ := f3_.symm; clear f1_ f2_ f3_; subst f4_; subst f5_)); obtain ⟨Ao26, co26, eo26⟩ := Kd.R_slice HO269.out; (first | subst eo26 | (injection eo26 with f1_ f2_ f3_; have f4_ := f1_.symm; have f5_ := f3_.symm; clear f1_ f2_ f3_; subst f4_; subst f5_)); obtain ⟨Ao27, co27, eo27⟩ := Kd.R_slice HO265.out; (first | subst eo27 | (injection eo27 with f1_ f2_ f3_; have f4_ := f1_.symm; have f5_ := f3_.symm; clear f1_ f2_ f3_; subst f4_; subst f5_)); refine nq_ ?_; refine one_ (i := 14) (N := none) u15_15 rfl rfl (one_of HT_.out (by kernel_rfl)) (by decide) (fun K hK => ?_); have hs28 : w24.cell? ⟨gb274, 0, none⟩ = some (.slice none 0 0) := (blk_cell BK274.out 0).trans rfl; have hfs28 := blk_frozen BK274.out 0; have hns28_0 := NB258_274.out; have hms28_0 := NB274_258.out; have hs29 : w24.cell? ⟨gb274, 1, none⟩ = some (.slice none 0 0) := (blk_cell BK274.out 1).trans rfl; have hfs29 := blk_frozen BK274.out 1; have hns29_0 := NB258_274.out; have hms29_0 := NB274_258.out; have hs30 : w24.cell? ⟨gb274, 2, none⟩ = some (.slice none 0 0) := (blk_cell BK274.out 2).trans rfl; have hfs30 := blk_frozen BK274.out 2; have hns30_0 := NB258_274.out; have hms30_0 := NB274_258.out; refine skip_ (w1 := ?_) (by rfl) rfl ?_ ?_; rotate_left
     ·go_simp
      rfl
     refine hK.out _ _ ⟨((cell_far (p := ⟨gb274, _, none⟩) Bc_0 _).trans (((cell_far (p := ⟨gb274, _, none⟩) Bc_0 _).trans (((cell_far (p := ⟨gb274, _, none⟩) Bc_0 _).trans (hHeld.1)))))), ((cell_far (p := ⟨gb274, _, none⟩) Bc_0 _).trans (((cell_far (p := ⟨gb274, _, none⟩) Bc_0 _).trans (((cell_far (p := ⟨gb274, _, none⟩) Bc_0 _).trans (hHeld.2.1)))))), ((cell_far (p := ⟨gb274, _, none⟩) Bc_0 _).trans (((cell_far (p := ⟨gb274, _, none⟩) Bc_0 _).trans (((cell_far (p := ⟨gb274, _, none⟩) Bc_0 _).trans (hHeld.2.2))))))⟩ (fun hHeld => ?_); clear hK K; refine done_ (done_of HT_.out (by kernel_rfl)) ?_; have hnb31 := NB274_258.out; have hnc31 := NB258_274.out; have hz32 := bc3_ BK274.out; go_upto_region 6 with (first | ((with_reducible refine gate_callee (f := 23) rfl ?_); refine goesL_ (some 29) rfl rfl Try.func23 (by kernel_rfl) rfl #[.agg #[.slice Ao27 t263.length co27, .slice Ao26 t267.length co26, .slice Ao25 t271.length co25]] rfl Bc_1 ?_; (with_reducible refine (impl_LayoutText.calls k _ _ t263 _ _ t267 _ _ t271 t275 t276 _ ?side1 ?side2 ?side3 ?side4 ?side5 ?side6 A14.out).mono ?_); (case side1 => refine (Kd.R_reads' (e := 3) (base := w.heap.size) (ok := fun k_ => (some k_ ≠ (.slice Ao26 t267.length co26 : Value).ownBlock ∧ some k_ ≠ (.slice Ao25 t271.length co25 : Value).ownBlock)) (n := t263.length) (c := co27) ?_).2.2; exact Bc_17); (case side2 => exact (Kd.R_reads' HO265.out).2.1); (case side3 => refine (Kd.R_reads' (e := 3) (base := w.heap.size) (ok := fun k_ => (some k_ ≠ (.slice Ao27 t263.length co27 : Value).ownBlock ∧ some k_ ≠ (.slice Ao25 t271.length co25 : Value).ownBlock)) (n := t267.length) (c := co26) ?_).2.2; exact Bc_18); (case side4 => exact (Kd.R_reads' HO269.out).2.1); (case side5 => refine (Kd.R_reads' (e := 3) (base := w.heap.size) (ok := fun k_ => (some k_ ≠ (.slice Ao27 t263.length co27 : Value).ownBlock ∧ some k_ ≠ (.slice Ao26 t267.length co26 : Value).ownBlock)) (n := t271.length) (c := co25) ?_).2.2; exact Bc_19); (case side6 => exact (Kd.R_reads' HO273.out).2.1); rintro e w33 ⟨rfl, hb⟩; refine ⟨_, rfl, ?_⟩; replace HO261 := Aside0.mk (Kd.R_below (by (with_reducible repeat (first | apply Kd.R_alloc | apply Kd.R_drewN | apply Kd.R_drew)); exact (Kd.R_mono (Kd.R_far (p := ⟨gb274, 2, none⟩) (Kd.R_far (p := ⟨gb274, 1, none⟩) (Kd.R_far (p := ⟨gb274, 0, none⟩) (Kd.R_types HO261.out BK274.out (by decide)) (fun _ hk => hk.2) (.slice Ao27 t263.length co27)) (fun _ hk => hk.2) (.slice Ao26 t267.length co26)) (fun _ hk => hk.2) (.slice Ao25 t271.length co25)) (fun _ h_ => h_.1))) hb); replace HO265 := Aside0.mk (Kd.R_below Bc_17 hb); replace HO269 := Aside0.mk (Kd.R_below Bc_18 hb); replace HO273 := Aside0.mk (Kd.R_below Bc_19 hb); replace BK258 := bb_ BK258 hb; replace BK274 := Aside0.mk (blk_below (g := gb274) (o := .cells #[.slice Ao27 t263.length co27, .slice Ao26 t267.length co26, .slice Ao25 t271.length co25] 39 (0, 0)) (by (with_reducible repeat (first | refine blk_drewN ?_ _ | refine blk_drew ?_ | refine blk_alloc ?_ _)); refine blk_put (cs := #[.slice Ao27 t263.length co27, .slice Ao26 t267.length co26, .slice none 0 0]) ?_ 2 _ rfl; (with_reducible repeat (first | refine blk_drewN ?_ _ | refine blk_drew ?_ | refine blk_alloc ?_ _)); refine blk_put (cs := #[.slice Ao27 t263.length co27, .slice none 0 0, .slice none 0 0]) ?_ 1 _ rfl; (with_reducible repeat (first | refine blk_drewN ?_ _ | refine blk_drew ?_ | refine blk_alloc ?_ _)); refine blk_put (cs := #[.slice none 0 0, .slice none 0 0, .slice none 0 0]) ?_ 0 _ rfl; (with_reducible repeat (first | refine blk_drewN ?_ _ | refine blk_drew ?_ | refine blk_alloc ?_ _)); exact BK274.out) hb); replace HB := Aside0.mk (below_step hb_ hb); (try clear hb); (try clear hb2); (try clear hk); (try clear hi)))
     (try simp only [Act.put, List.setIfInBounds_toArray, List.set_cons_zero, List.set_cons_succ]); have H := HC15.out; clear HC15; by_cases c34 : t276 = true
     ·subst c34
      rw [if_pos rfl] at H; by_cases c35 : t275.toList = a0.toList
      ·rw [if_pos c35] at H
       have c35b0 : (t275.toList == a0.toList) = true := beq_iff_eq.mpr c35; have c35b1 : (t275.toList != a0.toList) = false := bne_eq_false_iff_eq.mpr c35; clear c35; (first | rw [c35b0] | (simp only [i64_w, i32_w]; rw [c35b0]) | skip); simp only [Option.some.injEq, Prod.mk.injEq] at H; obtain ⟨rfl, rfl, rfl, rfl⟩ := H; have hnb36 := NB274_258.out; have hnc36 := NB258_274.out; have hz37 := bc3_ BK274.out; have hz38 := bc3_ BK258.out; go_wp2; refine bodyPost_ret (results_ct rfl _ _ gb258 39 #[.slice Ao27 t263.length co27, .slice Ao26 t267.length co26, .slice Ao25 t271.length co25] (0, 0) _ rfl (by (with_reducible repeat (first | refine blk_drewN ?_ _ | refine blk_drew ?_ | refine blk_alloc ?_ _)); refine blk_put (cs := #[.slice Ao27 t263.length co27, .slice Ao26 t267.length co26, .slice none 0 0]) ?_ 2 _ rfl; (with_reducible repeat (first | refine blk_drewN ?_ _ | refine blk_drew ?_ | refine blk_alloc ?_ _)); refine blk_put (cs := #[.slice Ao27 t263.length co27, .slice none 0 0, .slice none 0 0]) ?_ 1 _ rfl; (with_reducible repeat (first | refine blk_drewN ?_ _ | refine blk_drew ?_ | refine blk_alloc ?_ _)); refine blk_put (cs := #[.slice none 0 0, .slice none 0 0, .slice none 0 0]) ?_ 0 _ rfl; (with_reducible repeat (first | refine blk_drewN ?_ _ | refine blk_drew ?_ | refine blk_alloc ?_ _)); exact BK258.out) Try.underlying39 rfl (by kernel_rfl)) rfl ?_; exact ⟨_, _, _, Bc_4, (by (with_reducible repeat (first | apply Kd.R_alloc | apply Kd.R_drewN | apply Kd.R_drew)); exact Kd.R_mono (Kd.R_far (p := ⟨gb258, 2, none⟩) (Kd.R_far (p := ⟨gb258, 1, none⟩) (Kd.R_far (p := ⟨gb258, 0, none⟩) (Kd.R_types HO265.out BK258.out (by decide)) (fun _ hk => hk.2) (.slice Ao27 t263.length co27)) (fun _ hk => hk.2) (.slice Ao26 t267.length co26)) (fun _ hk => hk.2) (.slice Ao25 t271.length co25)) (fun _ hk => ⟨hk.1.1, hk.1.2⟩)), (by (with_reducible repeat (first | apply Kd.R_alloc | apply Kd.R_drewN | apply Kd.R_drew)); exact Kd.R_mono (Kd.R_far (p := ⟨gb258, 2, none⟩) (Kd.R_far (p := ⟨gb258, 1, none⟩) (Kd.R_far (p := ⟨gb258, 0, none⟩) (Kd.R_types HO269.out BK258.out (by decide)) (fun _ hk => hk.2) (.slice Ao27 t263.length co27)) (fun _ hk => hk.2) (.slice Ao26 t267.length co26)) (fun _ hk => hk.2) (.slice Ao25 t271.length co25)) (fun _ hk => ⟨hk.1.1, hk.1.2⟩)), (by (with_reducible repeat (first | apply Kd.R_alloc | apply Kd.R_drewN | apply Kd.R_drew)); exact Kd.R_mono (Kd.R_far (p := ⟨gb258, 2, none⟩) (Kd.R_far (p := ⟨gb258, 1, none⟩) (Kd.R_far (p := ⟨gb258, 0, none⟩) (Kd.R_types HO273.out BK258.out (by decide)) (fun _ hk => hk.2) (.slice Ao27 t263.length co27)) (fun _ hk => hk.2) (.slice Ao26 t267.length co26)) (fun _ hk => hk.2) (.slice Ao25 t271.length co25)) (fun _ hk => ⟨hk.1.1, hk.1.2⟩)), hb_⟩
      ·rw [if_neg c35] at H
       have c35b0 : (t275.toList == a0.toList) = false := beq_eq_false_iff_ne.mpr c35; have c35b1 : (t275.toList != a0.toList) = true := bne_iff_ne.mpr c35; (first | rw [c35b0] | (simp only [i64_w, i32_w]; rw [c35b0]) | skip); simp only [Option.some.injEq, Prod.mk.injEq] at H; obtain ⟨rfl, rfl, rfl, rfl⟩ := H; have hnb39 := NB258_274.out; have hnc39 := NB274_258.out; have hz40 := bc3_ BK258.out; go_wp2; refine bodyPost_ret (results_ct rfl _ _ gb258 39 #[.slice none 0 0, .slice none 0 0, .slice none 0 0] (0, 0) _ rfl Bc_6 Try.underlying39 rfl (by kernel_rfl)) rfl ?_; exact ⟨_, _, _, Bc_4, Bc_5, Bc_5, Bc_5, hb_⟩
     ·replace c34 := Bool.eq_false_iff.mpr c34
      subst c34; rw [if_neg (show ¬ (false = true) by decide)] at H; simp only [Option.some.injEq, Prod.mk.injEq] at H; obtain ⟨rfl, rfl, rfl, rfl⟩ := H; have hnb41 := NB258_274.out; have hnc41 := NB274_258.out; have hz42 := bc3_ BK258.out; go_wp2; refine bodyPost_ret (results_ct rfl _ _ gb258 39 #[.slice none 0 0, .slice none 0 0, .slice none 0 0] (0, 0) _ rfl Bc_6 Try.underlying39 rfl (by kernel_rfl)) rfl ?_; exact ⟨_, _, _, Bc_4, Bc_5, Bc_5, Bc_5, hb_⟩
    ·rw [if_neg c12] at H
     exact absurd H (by simp)
   ·rw [if_neg c10] at H
    exact absurd H (by simp)
  ·rw [if_neg c8] at H
   exact absurd H (by simp)
 ·rw [if_neg c7] at H
  have c7b0 : ((t259.length : Int) == 3) = false := beq_eq_false_iff_ne.mpr c7; have c7b1 : ((t259.length : Int) != 3) = true := bne_iff_ne.mpr c7; (first | rw [c7b0] | (simp only [i64_w, i32_w]; rw [c7b0]) | skip); simp only [Option.some.injEq, Prod.mk.injEq] at H; obtain ⟨rfl, rfl, rfl, rfl⟩ := H; have hz43 := bc3_ BK258.out; go_wp2; refine bodyPost_ret (results_ct rfl _ _ gb258 39 #[.slice none 0 0, .slice none 0 0, .slice none 0 0] (0, 0) _ rfl Bc_6 Try.underlying39 rfl (by kernel_rfl)) rfl ?_; exact ⟨_, _, _, Bc_4, Bc_5, Bc_5, Bc_5, hb_⟩
end Go.Proofs.Ytjmhhgnknjfnlaa.PFnLayouts
namespace Go.Proofs.Ytjmhhgnknjfnlaa.PFnLayouts
open Go.RowKit Go.Proofs.YtjmhhgnknjfnlaaW.PrintWords Go.Proofs.YtjmhhgnknjfnlaaW.PrintLast Go.Proofs.YtjmhhgnknjfnlaaW.PrintMore
attribute [local go_sem] max2_int min2_int max_two min_two max_three min_three max_four min_four
set_option linter.unusedVariables false
set_option linter.unusedSimpArgs false
def impl_copyInts.f (l0 : List Int) : Option (List Int) := (some (([] : List Int) : List Int)).bind fun y277 => (if y277.length + l0.length < 17592186044416 then (some (y277 ++ l0)) else (none))
set_option maxHeartbeats 8000000 in
set_option maxRecDepth 100000 in
theorem impl_copyInts.calls (A0 : Option Addr) (c0 : Nat) (l0 : List Int) (r : List Int) (w : World) (hr0 : Kd.C (Kd.int .i64) w A0 l0.length l0) (hc0 : l0.length ≤ c0) (h : impl_copyInts.f l0 = some r) :
  Calls Try.prog 84 #[.slice A0 l0.length c0] w fun e w' => ∃ v0_ : Value, e = .returned (v0_) ∧ Kd.R (Kd.int .i64) 3 w' w.heap.size (fun _ => True) v0_ r ∧ Below w.heap.size w w' := by
 have HR0 := Aside0.mk hr0; have HC0 := Aside0.mk hc0; clear hr0 hc0; have HB := Aside0.mk (Below.refl w.heap.size w); have H : ((some (([] : List Int) : List Int)).bind fun y277 => (if y277.length + l0.length < 17592186044416 then (some (y277 ++ l0)) else (none))) = some r := h; clear h; obtain ⟨y277, hy277⟩ : ∃ y_ : List Int, y_ = (([] : List Int)) := ⟨_, rfl⟩; replace H : (if y277.length + l0.length < 17592186044416 then (some (y277 ++ l0)) else (none)) = some r := by first | (rw [hy277]; with_reducible exact H) | (have H2_ := (Option.bind_some _ _).symm.trans H; rw [hy277]; with_reducible exact H2_) | (have H2_ := (Option.bind_some _ _).symm.trans H; with_reducible exact H2_) | with_reducible exact H | (rw [hy277]; exact H) | exact H
 have Ny277 := Aside0.mk hy277; clear hy277; by_cases c2 : y277.length + l0.length < 17592186044416
 ·rw [if_pos c2] at H
  have LMc2 := Aside0.mk c2; clear c2; obtain ⟨y280, hy280⟩ : ∃ y_ : List Int, y_ = (y277 ++ l0) := ⟨_, rfl⟩; replace H : (some y280) = some r := by first | (rw [hy280]; with_reducible exact H) | (have H2_ := (Option.bind_some _ _).symm.trans H; rw [hy280]; with_reducible exact H2_) | (have H2_ := (Option.bind_some _ _).symm.trans H; with_reducible exact H2_) | with_reducible exact H | (rw [hy280]; exact H) | exact H
  have Ny280 := Aside0.mk hy280; clear hy280; obtain rfl := Option.some.inj H; go_enter Try.func84, Try.ntmps84; go_wp2_with (first | ((with_reducible refine gate_dst (N := 3) rfl ?_); refine Kd.R_lit (Kd.int .i64) _ 3 ?hg (N := 3) ?hd (xs := ([] : List Int)) (inner := []) (ok := fun _ => True) (okp := fun _ => True) ?hr ?hp (fun _ hk => hk) trivial (Below.refl _ _) (Nat.le_refl _) (by simp) ?_; (case hd => rfl); (case hg => rfl); (case hr => first | (go_simp; done) | (go_simp; rfl)); (case hp => exact (Reps.none _ _)); intro v278 w3 ho4 hb hg_ hnew_; clear hg_ hnew_; (first | rw [← Ny277.out] at ho4 | (simp only [Int.reduceToNat] at ho4; rw [← Ny277.out] at ho4)); have HO279 := Aside0.mk (Kd.R_lower ho4 (below_size hb_)); replace HB := Aside0.mk (below_step hb_ hb); clear hb ho4) | ((with_reducible refine gate_builtin (b := .append) (xs := #[.tmp 3, .tmp 4]) rfl ?_); at_builtin; refine Kd.R_append_rows (Kd.int .i64) (w0 := w) w.heap.size rfl (.tmp 3) (.tmp 4) 37 3 (.int .i64 0) 8 rfl Try.underlying37 info3 rfl (by decide) (by omega) v278 y277 l0 _ _ _ (fun _ => True) (fun _ => False) rfl rfl ?aO ?aR (fun _ _ h => h) (fun _ h => h.elim) ?aF ?aB ?aS ?aL ?_; (case aR => repeat (first | exact (Kd.C_below HR0.out HB.out) | (with_reducible refine Kd.C_alloc ?_ _) | (with_reducible refine Kd.C_drewN ?_ _) | (with_reducible refine Kd.C_drew ?_))); (case aB => exact hb_); (case aF => exact (fun _ _ => trivial)); (case aO => exact (by (with_reducible repeat (first | apply Kd.R_alloc | apply Kd.R_drewN | apply Kd.R_drew)); exact HO279.out)); (case aS => exact (below_size hb_)); (case aL => have := LMc2.out; omega); intro v281 w5 ho hb hg hat; rw [← Ny280.out] at ho; replace HB := Aside0.mk (hb); have HO282 := Aside0.mk (ho); clear HO279; clear ho hb hg hat)); go_ret; exact ⟨_, Bc_4, (by (with_reducible repeat (first | apply Kd.R_alloc | apply Kd.R_drewN | apply Kd.R_drew)); exact HO282.out), hb_⟩
 ·rw [if_neg c2] at H
  exact absurd H (by simp)
end Go.Proofs.Ytjmhhgnknjfnlaa.PFnLayouts
namespace Go.Proofs.Ytjmhhgnknjfnlaa.PFnLayouts
open Go.RowKit Go.Proofs.YtjmhhgnknjfnlaaW.PrintWords Go.Proofs.YtjmhhgnknjfnlaaW.PrintLast Go.Proofs.YtjmhhgnknjfnlaaW.PrintMore
attribute [local go_sem] max2_int min2_int max_two min_two max_three min_three max_four min_four
set_option linter.unusedVariables false
set_option linter.unusedSimpArgs false
def impl_LayoutSeq.j0 : Nat → Int → Bool → List Int → List Int → List Int → Option (Int × Int × List Int × List Int × Bool)
 | 0, _, _, _, _, _ => none
 | k + 1, x1, x13, x284000, x284001, x284002 => if x13 = true then (some (0, 0, ([] : List Int), ([] : List Int), false)) else ((impl_LevelFor.f k x284000 x284001).bind fun t287 => ((impl_copyInts.f x284000).bind fun t288 => ((impl_copyInts.f x284001).bind fun t291 => (some (t287, x1, t288, t291, true)))))
def impl_LayoutSeq.f (k : Nat) (l0_0 : List Int) (l0_1 : List Int) (l0_2 : List Int) (a1 : Int) : Option (Int × Int × List Int × List Int × Bool) := (impl_LayoutOk.f k l0_0 l0_1 l0_2).bind fun t285 => (if t285 = true then ((impl_within.f a1 3 8).bind fun t286 => (impl_LayoutSeq.j0 k a1 (!t286) l0_0 l0_1 l0_2)) else (impl_LayoutSeq.j0 k a1 true l0_0 l0_1 l0_2))
theorem impl_LayoutSeq.mono_l : ∀ k, (∀ y0 y1 y2 y3 y4, LeO (impl_LayoutSeq.j0 k y0 y1 y2 y3 y4) (impl_LayoutSeq.j0 (k + 1) y0 y1 y2 y3 y4))
 | 0 => fun _ _ _ _ _ r h => by simp [impl_LayoutSeq.j0] at h
 | k + 1 => by
  have ih0 := impl_LayoutSeq.mono_l k
  ·intro y0 y1 y2 y3 y4
   unfold impl_LayoutSeq.j0
   repeat' first
   | (with_reducible exact ih0 _ _ _ _ _)
   | (with_reducible exact impl_LayoutOk.mono _ _ _ _)
   | (with_reducible exact impl_LevelFor.mono _ _ _)
   | (with_reducible exact LeO.refl _)
   | (with_reducible exact LeO.none _)
   | (with_reducible refine LeO.ite ?_ ?_)
   | (with_reducible refine LeO.bind ?_ (fun _ => ?_))
   | exact ih0 _ _ _ _ _
   | exact impl_LayoutOk.mono _ _ _ _
   | exact impl_LevelFor.mono _ _ _
   | exact LeO.none _
   | refine LeO.ite ?_ ?_
   | refine LeO.bind ?_ (fun _ => ?_)
theorem impl_LayoutSeq.mono : ∀ a0 a1 a2 a3 k, LeO (impl_LayoutSeq.f k a0 a1 a2 a3) (impl_LayoutSeq.f (k + 1) a0 a1 a2 a3) := by
 intro a0 a1 a2 a3 k; have ih0 := impl_LayoutSeq.mono_l k; unfold impl_LayoutSeq.f
 repeat' first
   | (with_reducible exact ih0 _ _ _ _ _)
   | (with_reducible exact impl_LayoutOk.mono _ _ _ _)
   | (with_reducible exact impl_LevelFor.mono _ _ _)
   | (with_reducible exact LeO.refl _)
   | (with_reducible exact LeO.none _)
   | (with_reducible refine LeO.ite ?_ ?_)
   | (with_reducible refine LeO.bind ?_ (fun _ => ?_))
   | exact ih0 _ _ _ _ _
   | exact impl_LayoutOk.mono _ _ _ _
   | exact impl_LevelFor.mono _ _ _
   | exact LeO.none _
   | refine LeO.ite ?_ ?_
   | refine LeO.bind ?_ (fun _ => ?_)
def impl_LayoutSeq.T3 : Bool × List (List Nat × List Nat) := (true, [([], []), ([0], [0]), ([], []), ([2], [2]), ([1, 3], [1, 3]), ([], []), ([], []), ([6], [6]), ([7, 4], [7]), ([], []), ([9], [9]), ([10, 8], [10]), ([4, 5, 8, 11], [4, 5, 8, 11]), ([12, 11, 0, 1, 2, 3, 4, 5, 6, 7, 8, 9, 10, 11, 12], [12]), ([13, 0, 1, 2, 3, 4, 5, 6, 7, 8, 9, 10, 11, 12, 13], [])])
def impl_LayoutSeq.B3 : List Nat := [0, 1, 0, 4, 15, 0, 0, 64, 223, 0, 512, 2015, 4095, 8191, 16383]
theorem impl_LayoutSeq.tab3 : rtab .any (opsOf Try.f25 3) = impl_LayoutSeq.T3 := by kernel_rfl
theorem impl_LayoutSeq.bits3 : waitsOk impl_LayoutSeq.T3.2 impl_LayoutSeq.B3 = true := by kernel_rfl
set_option maxHeartbeats 8000000 in
set_option maxRecDepth 100000 in
theorem impl_LayoutSeq.calls (k : Nat) (A0_0 : Option Addr) (c0_0 : Nat) (l0_0 : List Int) (A0_1 : Option Addr) (c0_1 : Nat) (l0_1 : List Int) (A0_2 : Option Addr) (c0_2 : Nat) (l0_2 : List Int) (a1 : Int) (r1 : Int) (r2 : Int) (r3 : List Int) (r4 : List Int) (r5 : Bool) (w : World) (hr0_0 : Kd.C (Kd.int .i64) w A0_0 l0_0.length l0_0) (hc0_0 : l0_0.length ≤ c0_0) (hr0_1 : Kd.C (Kd.int .i64) w A0_1 l0_1.length l0_1) (hc0_1 : l0_1.length ≤ c0_1) (hr0_2 : Kd.C (Kd.int .i64) w A0_2 l0_2.length l0_2) (hc0_2 : l0_2.length ≤ c0_2) (h : impl_LayoutSeq.f k l0_0 l0_1 l0_2 a1 = some (r1, r2, r3, r4, r5)) :
  Calls Try.prog 25 #[.agg #[.slice A0_0 l0_0.length c0_0, .slice A0_1 l0_1.length c0_1, .slice A0_2 l0_2.length c0_2], .int .i64 a1] w fun e w' => ∃ v2_ v3_ : Value, e = .returned (.tuple #[.agg #[.int .i64 r1, .int .i64 r2, v2_, v3_], .bool r5]) ∧ Kd.R (Kd.int .i64) 3 w' w.heap.size (fun k_ => some k_ ≠ (v3_ : Value).ownBlock) v2_ r3 ∧ Kd.R (Kd.int .i64) 3 w' w.heap.size (fun k_ => some k_ ≠ (v2_ : Value).ownBlock) v3_ r4 ∧ Below w.heap.size w w' := by
 have hu39 := Try.underlying39; have hu46 := Try.underlying46; have HR0_0 := Aside0.mk hr0_0; have HC0_0 := Aside0.mk hc0_0; clear hr0_0 hc0_0; have HR0_1 := Aside0.mk hr0_1; have HC0_1 := Aside0.mk hc0_1; clear hr0_1 hc0_1; have HR0_2 := Aside0.mk hr0_2; have HC0_2 := Aside0.mk hc0_2; clear hr0_2 hc0_2; have HB := Aside0.mk (Below.refl w.heap.size w); have H : ((impl_LayoutOk.f k l0_0 l0_1 l0_2).bind fun t285 => (if t285 = true then ((impl_within.f a1 3 8).bind fun t286 => (impl_LayoutSeq.j0 k a1 (!t286) l0_0 l0_1 l0_2)) else (impl_LayoutSeq.j0 k a1 true l0_0 l0_1 l0_2))) = some (r1, r2, r3, r4, r5) := h; clear h; have HC3 := Aside0.mk H; clear H; go_enter Try.func25, Try.ntmps25; go_upto_region 1 with (first | ((with_reducible refine gate_dst (N := 2) rfl ?_); refine bx_ (N := 2) (cs := #[.slice A0_0 l0_0.length c0_0, .slice A0_1 l0_1.length c0_1, .slice A0_2 l0_2.length c0_2]) (t := 39) ?_; intro gb283 hg w4 hbox hb; have BK283 := Aside0.mk (hbox); have GW283 := gw_ hg hb_; have GE283 := gw_ hg hb_; replace HB := Aside0.mk (below_step hb_ hb); clear hb hbox hg) | ((with_reducible refine gate_dst (N := 4) rfl ?_); refine bx_ (N := 4) (cs := #[.int .i64 0, .int .i64 0, .slice none 0 0, .slice none 0 0]) (t := 46) ?_; intro gb284 hg w5 hbox hb; have BK284 := Aside0.mk (hbox); have GW284 := gw_ hg hb_; have GE284 := gw_ hg hb_; replace HB := Aside0.mk (below_step hb_ hb); obtain ⟨NB283_284, NB284_283, BK283⟩ := nb_ hg hb BK283; clear hb hbox hg))
 (try simp only [Act.put, List.setIfInBounds_toArray, List.set_cons_zero, List.set_cons_succ]); go_cut [13] (fun v13 wc => ∃ (kq : Nat) (x13_2 : Bool), v13 = .bool x13_2 ∧ Aside0 (impl_LayoutSeq.j0 kq a1 x13_2 l0_0 l0_1 l0_2 = some (r1, r2, r3, r4, r5)) ∧ Aside0 (kq ≤ k) ∧ Aside0 (wc.heap[gb283]? = some (.cells #[(.slice A0_0 l0_0.length c0_0), (.slice A0_1 l0_1.length c0_1), (.slice A0_2 l0_2.length c0_2)] 39 (0, 0))) ∧ Aside0 (wc.heap[gb284]? = some (.cells #[.int .i64 0, .int .i64 0, (.slice none 0 0), (.slice none 0 0)] 46 (0, 0))) ∧ Aside0 (Below w.heap.size w wc))
 case first =>
  have H := HC3.out; clear HC3; replace H := Option.bind_eq_some_iff.mp H; obtain ⟨t285, A60, H⟩ := H; try dsimp only at H
  have A6 := Aside0.mk A60; clear A60; by_cases c7 : t285 = true
  ·subst c7
   rw [if_pos rfl] at H; replace H := Option.bind_eq_some_iff.mp H; obtain ⟨t286, A80, H⟩ := H; try dsimp only at H
   have A8 := Aside0.mk A80; clear A80; have H' := Aside0.mk H; clear H; have hnb9 := NB283_284.out; have hnc9 := NB284_283.out; have hz10 := bc3_ BK283.out; go_wp2_with (first | ((with_reducible refine gate_callee (f := 80) rfl ?_); refine gA_ (some 7) Try.func80 (impl_LayoutOk.calls _ _ _ _ _ _ _ _ _ _ _ _ ?side1 ?side2 ?side3 ?side4 ?side5 ?side6 A6.out) ?_; (case side1 => repeat (first | exact (Kd.C_below HR0_0.out HB.out) | (with_reducible refine Kd.C_alloc ?_ _) | (with_reducible refine Kd.C_drewN ?_ _) | (with_reducible refine Kd.C_drew ?_))); (case side2 => exact HC0_0.out); (case side3 => repeat (first | exact (Kd.C_below HR0_1.out HB.out) | (with_reducible refine Kd.C_alloc ?_ _) | (with_reducible refine Kd.C_drewN ?_ _) | (with_reducible refine Kd.C_drew ?_))); (case side4 => exact HC0_1.out); (case side5 => repeat (first | exact (Kd.C_below HR0_2.out HB.out) | (with_reducible refine Kd.C_alloc ?_ _) | (with_reducible refine Kd.C_drewN ?_ _) | (with_reducible refine Kd.C_drew ?_))); (case side6 => exact HC0_2.out); rintro e w11 ⟨rfl, hb⟩; refine ⟨_, rfl, ?_⟩; replace BK283 := bb_ BK283 hb; replace BK284 := bb_ BK284 hb; replace HB := Aside0.mk (below_step hb_ hb); (try clear hb); (try clear hb2); (try clear hk); (try clear hi)) | (go_at_call 71; (with_reducible refine (impl_within.calls a1 3 8 t286 _ A8.out).mono ?_); rintro e w' ⟨rfl, ⟨nd, rfl⟩⟩)); go_meet
   case rel => exact ⟨_, (!t286), Bc_9, H', ⟨Bc_29⟩, ⟨Bc_26⟩, ⟨Bc_27⟩, ⟨hb_⟩⟩
  ·replace c7 := Bool.eq_false_iff.mpr c7
   subst c7; rw [if_neg (show ¬ (false = true) by decide)] at H; have H' := Aside0.mk H; clear H; have hnb12 := NB283_284.out; have hnc12 := NB284_283.out; have hz13 := bc3_ BK283.out; go_wp2_with (first | ((with_reducible refine gate_callee (f := 80) rfl ?_); refine gA_ (some 7) Try.func80 (impl_LayoutOk.calls _ _ _ _ _ _ _ _ _ _ _ _ ?side1 ?side2 ?side3 ?side4 ?side5 ?side6 A6.out) ?_; (case side1 => repeat (first | exact (Kd.C_below HR0_0.out HB.out) | (with_reducible refine Kd.C_alloc ?_ _) | (with_reducible refine Kd.C_drewN ?_ _) | (with_reducible refine Kd.C_drew ?_))); (case side2 => exact HC0_0.out); (case side3 => repeat (first | exact (Kd.C_below HR0_1.out HB.out) | (with_reducible refine Kd.C_alloc ?_ _) | (with_reducible refine Kd.C_drewN ?_ _) | (with_reducible refine Kd.C_drew ?_))); (case side4 => exact HC0_1.out); (case side5 => repeat (first | exact (Kd.C_below HR0_2.out HB.out) | (with_reducible refine Kd.C_alloc ?_ _) | (with_reducible refine Kd.C_drewN ?_ _) | (with_reducible refine Kd.C_drew ?_))); (case side6 => exact HC0_2.out); rintro e w14 ⟨rfl, hb⟩; refine ⟨_, rfl, ?_⟩; replace BK283 := bb_ BK283 hb; replace BK284 := bb_ BK284 hb; replace HB := Aside0.mk (below_step hb_ hb); (try clear hb); (try clear hb2); (try clear hk); (try clear hi))); go_meet
   case rel => exact ⟨_, (true), Bc_9, H', ⟨Bc_29⟩, ⟨Bc_26⟩, ⟨Bc_27⟩, ⟨hb_⟩⟩
 case rest =>
  clear HC3; try clear c1; try clear c2; try clear p2; try clear c7; try clear c8; try clear c9; try clear c12; try clear hz10; try clear hz13
  obtain ⟨kq, x13_2, rfl, HA, HJ2, BK283, BK284, HB⟩ := hcut; cases kq with
  | zero => exact absurd HA.out (by simp [impl_LayoutSeq.j0])
  | succ kj2 =>
   have H := HA.out; clear HA; simp only [impl_LayoutSeq.j0] at H; by_cases c15 : x13_2 = true
   ·subst c15
    rw [if_pos rfl] at H; simp only [Option.some.injEq, Prod.mk.injEq] at H; obtain ⟨rfl, rfl, rfl, rfl, rfl⟩ := H; have hnb16 := NB284_283.out; have hnc16 := NB283_284.out; have hz17 := bc4_ BK284.out; go_wp2; refine bodyPost_ret (results_ct rfl _ _ gb284 46 #[.int .i64 0, .int .i64 0, .slice none 0 0, .slice none 0 0] (0, 0) _ rfl (by (with_reducible repeat (first | refine blk_drewN ?_ _ | refine blk_drew ?_ | refine blk_alloc ?_ _)); refine blk_put (cs := #[.int .i64 0, .int .i64 0, .slice none 0 0, .slice none 0 0]) ?_ 3 _ rfl; (with_reducible repeat (first | refine blk_drewN ?_ _ | refine blk_drew ?_ | refine blk_alloc ?_ _)); refine blk_put (cs := #[.int .i64 0, .int .i64 0, .slice none 0 0, .slice none 0 0]) ?_ 2 _ rfl; (with_reducible repeat (first | refine blk_drewN ?_ _ | refine blk_drew ?_ | refine blk_alloc ?_ _)); refine blk_put (cs := #[.int .i64 0, .int .i64 0, .slice none 0 0, .slice none 0 0]) ?_ 1 _ rfl; (with_reducible repeat (first | refine blk_drewN ?_ _ | refine blk_drew ?_ | refine blk_alloc ?_ _)); refine blk_put (cs := #[.int .i64 0, .int .i64 0, .slice none 0 0, .slice none 0 0]) ?_ 0 _ rfl; (with_reducible repeat (first | refine blk_drewN ?_ _ | refine blk_drew ?_ | refine blk_alloc ?_ _)); exact BK284.out) Try.underlying46 rfl (by kernel_rfl)) rfl ?_; exact ⟨_, _, Bc_4, Bc_5, Bc_5, hb_⟩
   ·replace c15 := Bool.eq_false_iff.mpr c15
    subst c15; rw [if_neg (show ¬ (false = true) by decide)] at H; replace H := Option.bind_eq_some_iff.mp H; obtain ⟨t287, A180, H⟩ := H; try dsimp only at H
    have A18 := Aside0.mk A180; clear A180; replace H := Option.bind_eq_some_iff.mp H; obtain ⟨t288, A190, H⟩ := H; try dsimp only at H
    have A19 := Aside0.mk A190; clear A190; replace H := Option.bind_eq_some_iff.mp H; obtain ⟨t291, A200, H⟩ := H; try dsimp only at H
    have A20 := Aside0.mk A200; clear A200; simp only [Option.some.injEq, Prod.mk.injEq] at H; obtain ⟨rfl, rfl, rfl, rfl, rfl⟩ := H; try go_wp2
    replace BK283 := Aside0.mk (blk_drew BK283.out); replace BK284 := Aside0.mk (blk_drew BK284.out); replace HB := Aside0.mk (below_drew1 HB.out); refine start_ (n := 15) (S := fun w' => w'.cell? ⟨gb283, 0, none⟩ = some (.slice A0_0 l0_0.length c0_0) ∧ w'.cell? ⟨gb283, 1, none⟩ = some (.slice A0_1 l0_1.length c0_1) ∧ w'.cell? ⟨gb283, 2, none⟩ = some (.slice A0_2 l0_2.length c0_2)) (ds := []) u15_0 (by kernel_rfl) rfl rfl ⟨(blk_cell BK283.out 0).trans rfl, (blk_cell BK283.out 1).trans rfl, (blk_cell BK283.out 2).trans rfl⟩ (fun hHeld => ?_); refine with_tabW impl_LayoutSeq.tab3 impl_LayoutSeq.bits3 (fun HT_ HW_ => ?_); generalize wc.drew = w21 at BK283 BK284 HB hHeld ⊢
    refine pu_ HT_.out 0 (some 15) u15_1 ?_; refine pu_ HT_.out 2 (some 17) u15_5000x ?_; refine pu_ HT_.out 5 (some 20) u15_5200x ?_; refine pu_ HT_.out 6 (some 21) u15_5300x ?_; refine pu_ HT_.out 9 (some 24) u15_5320x ?_; refine take_ (i := 1) (N := some 16) (v := ?_) (a' := ?_) u15_7320x rfl rfl (take_ofW HT_.out HW_.out (by kernel_rfl)) (fun _ _ _ h => h) (Or.inl ⟨(by rfl), ?_⟩) hHeld ?_ ?_; rotate_left
    ·rintro w' ⟨s0, s1, s2⟩
     go_simp; with_reducible rfl
    rotate_left
    ·simp only [Act.put, List.setIfInBounds_toArray, List.set_cons_zero, List.set_cons_succ, i64_w, i32_w]
     rfl
    refine take_ (i := 3) (N := some 18) (v := ?_) (a' := ?_) u15_7b20x rfl rfl (take_ofW HT_.out HW_.out (by kernel_rfl)) (fun _ _ _ h => h) (Or.inl ⟨(by rfl), ?_⟩) hHeld ?_ ?_; rotate_left
    ·rintro w' ⟨s0, s1, s2⟩
     go_simp; with_reducible rfl
    rotate_left
    ·simp only [Act.put, List.setIfInBounds_toArray, List.set_cons_zero, List.set_cons_succ, i64_w, i32_w]
     rfl
    refine take_ (i := 7) (N := some 22) (v := ?_) (a' := ?_) u15_7ba0x rfl rfl (take_ofW HT_.out HW_.out (by kernel_rfl)) (fun _ _ _ h => h) (Or.inl ⟨(by rfl), ?_⟩) hHeld ?_ ?_; rotate_left
    ·rintro w' ⟨s0, s1, s2⟩
     go_simp; with_reducible rfl
    rotate_left
    ·simp only [Act.put, List.setIfInBounds_toArray, List.set_cons_zero, List.set_cons_succ, i64_w, i32_w]
     rfl
    refine take_ (i := 10) (N := some 25) (v := ?_) (a' := ?_) u15_7bb0x rfl rfl (take_ofW HT_.out HW_.out (by kernel_rfl)) (fun _ _ _ h => h) (Or.inl ⟨(by rfl), ?_⟩) hHeld ?_ ?_; rotate_left
    ·rintro w' ⟨s0, s1, s2⟩
     go_simp; with_reducible rfl
    rotate_left
    ·simp only [Act.put, List.setIfInBounds_toArray, List.set_cons_zero, List.set_cons_succ, i64_w, i32_w]
     rfl
    refine one_ (i := 4) (N := some 19) u15_7fb0x rfl rfl (one_of HT_.out (by kernel_rfl)) (by decide) (fun K hK => ?_); refine goes_ Try.func83 (by kernel_rfl) rfl #[.slice A0_0 l0_0.length c0_0, .slice A0_1 l0_1.length c0_1] (by rfl) rfl rfl Bc_1 ?_; with_reducible refine (impl_LevelFor.calls kj2 _ _ l0_0 _ _ l0_1 t287 _ ?side1 ?side2 ?side3 ?side4 A18.out).mono ?_
    (case side1 => repeat (first | exact (Kd.C_below HR0_0.out HB.out) | (with_reducible refine Kd.C_alloc ?_ _) | (with_reducible refine Kd.C_drewN ?_ _) | (with_reducible refine Kd.C_drew ?_))); (case side2 => exact HC0_0.out); (case side3 => repeat (first | exact (Kd.C_below HR0_1.out HB.out) | (with_reducible refine Kd.C_alloc ?_ _) | (with_reducible refine Kd.C_drewN ?_ _) | (with_reducible refine Kd.C_drew ?_))); (case side4 => exact HC0_1.out); rintro e w22 ⟨rfl, hb⟩; refine ⟨_, rfl, ?_⟩; replace BK283 := bb_ BK283 hb; replace BK284 := bb_ BK284 hb; replace HB := Aside0.mk (below_step hb_ hb); (try clear hb); (try clear hb2); (try clear hk); (try clear hi); refine hK.out _ _ Bc_25 (fun hHeld => ?_); clear hK K; refine no_ 19 ?_; refine one_ (i := 8) (N := some 23) u15_11 rfl rfl (one_of HT_.out (by kernel_rfl)) (by decide) (fun K hK => ?_); refine goes_ Try.func84 (by kernel_rfl) rfl #[.slice A0_0 l0_0.length c0_0] (by rfl) rfl rfl Bc_1 ?_; with_reducible refine (impl_copyInts.calls _ _ l0_0 t288 _ ?side1 ?side2 A19.out).mono ?_
    (case side1 => repeat (first | exact (Kd.C_below HR0_0.out HB.out) | (with_reducible refine Kd.C_alloc ?_ _) | (with_reducible refine Kd.C_drewN ?_ _) | (with_reducible refine Kd.C_drew ?_))); (case side2 => exact HC0_0.out); rintro e w23 ⟨v289, rfl, ho0, hb⟩; refine ⟨_, rfl, ?_⟩; have HO290 := Aside0.mk (Kd.R_lower ho0 (below_size hb_)); replace BK283 := bb_ BK283 hb; replace BK284 := bb_ BK284 hb; replace HB := Aside0.mk (below_step hb_ hb); (try clear hb); (try clear hb2); (try clear hk); (try clear hi); (try clear ho0); refine hK.out _ _ Bc_25 (fun hHeld => ?_); clear hK K; refine no_ 23 ?_; refine one_ (i := 11) (N := some 26) u15_12 rfl rfl (one_of HT_.out (by kernel_rfl)) (by decide) (fun K hK => ?_); refine goes_ Try.func84 (by kernel_rfl) rfl #[.slice A0_1 l0_1.length c0_1] (by rfl) rfl rfl Bc_1 ?_; with_reducible refine (impl_copyInts.calls _ _ l0_1 t291 _ ?side1 ?side2 A20.out).mono ?_
    (case side1 => repeat (first | exact (Kd.C_below HR0_1.out HB.out) | (with_reducible refine Kd.C_alloc ?_ _) | (with_reducible refine Kd.C_drewN ?_ _) | (with_reducible refine Kd.C_drew ?_))); (case side2 => exact HC0_1.out); rintro e w24 ⟨v292, rfl, ho0, hb⟩; refine ⟨_, rfl, ?_⟩; have HO293 := Aside0.mk (Kd.R_lower (Kd.R_new' ho0 (Kd.R_lt Bc_31)) (below_size hb_)); replace HO290 := Aside0.mk (Kd.R_elder' Bc_31 (Kd.R_base ho0) hb); replace BK283 := bb_ BK283 hb; replace BK284 := bb_ BK284 hb; replace HB := Aside0.mk (below_step hb_ hb); (try clear hb); (try clear hb2); (try clear hk); (try clear hi); (try clear ho0); obtain ⟨Ao25, co25, eo25⟩ := Kd.R_slice HO293.out; (first | subst eo25 | (injection eo25 with f1_ f2_ f3_; have f4_ := f1_.symm; have f5_ := f3_.symm; clear f1_ f2_ f3_; subst f4_; subst f5_)); obtain ⟨Ao26, co26, eo26⟩ := Kd.R_slice HO290.out; (first | subst eo26 | (injection eo26 with f1_ f2_ f3_; have f4_ := f1_.symm; have f5_ := f3_.symm; clear f1_ f2_ f3_; subst f4_; subst f5_)); refine hK.out _ _ Bc_25 (fun hHeld => ?_); clear hK K; refine no_ 26 ?_; refine pu_ HT_.out 12 (some 27) u15_13 ?_; refine one_ (i := 13) (N := none) u15_14 rfl rfl (one_of HT_.out (by kernel_rfl)) (by decide) (fun K hK => ?_); have hs27 : w24.cell? ⟨gb284, 0, none⟩ = some (.int .i64 0) := (blk_cell BK284.out 0).trans rfl; have hfs27 := blk_frozen BK284.out 0; have hns27_0 := NB283_284.out; have hms27_0 := NB284_283.out; have hs28 : w24.cell? ⟨gb284, 1, none⟩ = some (.int .i64 0) := (blk_cell BK284.out 1).trans rfl; have hfs28 := blk_frozen BK284.out 1; have hns28_0 := NB283_284.out; have hms28_0 := NB284_283.out; have hs29 : w24.cell? ⟨gb284, 2, none⟩ = some (.slice none 0 0) := (blk_cell BK284.out 2).trans rfl; have hfs29 := blk_frozen BK284.out 2; have hns29_0 := NB283_284.out; have hms29_0 := NB284_283.out; have hs30 : w24.cell? ⟨gb284, 3, none⟩ = some (.slice none 0 0) := (blk_cell BK284.out 3).trans rfl; have hfs30 := blk_frozen BK284.out 3; have hns30_0 := NB283_284.out; have hms30_0 := NB284_283.out; refine skip_ (w1 := ?_) (by rfl) rfl ?_ ?_; rotate_left
    ·go_simp
     rfl
    refine hK.out _ _ ⟨((cell_far (p := ⟨gb284, _, none⟩) NB283_284.out _).trans (((cell_far (p := ⟨gb284, _, none⟩) NB283_284.out _).trans (((cell_far (p := ⟨gb284, _, none⟩) NB283_284.out _).trans (((cell_far (p := ⟨gb284, _, none⟩) NB283_284.out _).trans (hHeld.1)))))))), ((cell_far (p := ⟨gb284, _, none⟩) NB283_284.out _).trans (((cell_far (p := ⟨gb284, _, none⟩) NB283_284.out _).trans (((cell_far (p := ⟨gb284, _, none⟩) NB283_284.out _).trans (((cell_far (p := ⟨gb284, _, none⟩) NB283_284.out _).trans (hHeld.2.1)))))))), ((cell_far (p := ⟨gb284, _, none⟩) NB283_284.out _).trans (((cell_far (p := ⟨gb284, _, none⟩) NB283_284.out _).trans (((cell_far (p := ⟨gb284, _, none⟩) NB283_284.out _).trans (((cell_far (p := ⟨gb284, _, none⟩) NB283_284.out _).trans (hHeld.2.2))))))))⟩ (fun hHeld => ?_); clear hK K; refine pu_ HT_.out 14 (some 5) u15_15 ?_; refine done_ (done_of HT_.out (by kernel_rfl)) ?_; try go_wp2
    refine bodyPost_ret (results_ct rfl _ _ gb284 46 #[.int .i64 t287, .int .i64 a1, .slice Ao26 t288.length co26, .slice Ao25 t291.length co25] (0, 0) _ rfl (by (with_reducible repeat (first | refine blk_drewN ?_ _ | refine blk_drew ?_ | refine blk_alloc ?_ _)); refine blk_put (cs := #[.int .i64 t287, .int .i64 a1, .slice Ao26 t288.length co26, .slice none 0 0]) ?_ 3 _ rfl; (with_reducible repeat (first | refine blk_drewN ?_ _ | refine blk_drew ?_ | refine blk_alloc ?_ _)); refine blk_put (cs := #[.int .i64 t287, .int .i64 a1, .slice none 0 0, .slice none 0 0]) ?_ 2 _ rfl; (with_reducible repeat (first | refine blk_drewN ?_ _ | refine blk_drew ?_ | refine blk_alloc ?_ _)); refine blk_put (cs := #[.int .i64 t287, .int .i64 0, .slice none 0 0, .slice none 0 0]) ?_ 1 _ rfl; (with_reducible repeat (first | refine blk_drewN ?_ _ | refine blk_drew ?_ | refine blk_alloc ?_ _)); refine blk_put (cs := #[.int .i64 0, .int .i64 0, .slice none 0 0, .slice none 0 0]) ?_ 0 _ rfl; (with_reducible repeat (first | refine blk_drewN ?_ _ | refine blk_drew ?_ | refine blk_alloc ?_ _)); exact BK284.out) Try.underlying46 rfl (by kernel_rfl)) rfl ?_; exact ⟨_, _, Bc_4, (by (with_reducible repeat (first | apply Kd.R_alloc | apply Kd.R_drewN | apply Kd.R_drew)); exact Kd.R_mono (Kd.R_far (p := ⟨gb284, 3, none⟩) (Kd.R_far (p := ⟨gb284, 2, none⟩) (Kd.R_far (p := ⟨gb284, 1, none⟩) (Kd.R_far (p := ⟨gb284, 0, none⟩) (Kd.R_types HO290.out BK284.out (by decide)) (fun _ hk => hk.2) (.int .i64 t287)) (fun _ hk => hk.2) (.int .i64 a1)) (fun _ hk => hk.2) (.slice Ao26 t288.length co26)) (fun _ hk => hk.2) (.slice Ao25 t291.length co25)) (fun _ hk => hk.1.2)), (by (with_reducible repeat (first | apply Kd.R_alloc | apply Kd.R_drewN | apply Kd.R_drew)); exact Kd.R_mono (Kd.R_far (p := ⟨gb284, 3, none⟩) (Kd.R_far (p := ⟨gb284, 2, none⟩) (Kd.R_far (p := ⟨gb284, 1, none⟩) (Kd.R_far (p := ⟨gb284, 0, none⟩) (Kd.R_types HO293.out BK284.out (by decide)) (fun _ hk => hk.2) (.int .i64 t287)) (fun _ hk => hk.2) (.int .i64 a1)) (fun _ hk => hk.2) (.slice Ao26 t288.length co26)) (fun _ hk => hk.2) (.slice Ao25 t291.length co25)) (fun _ hk => hk.1.2)), hb_⟩
end Go.Proofs.Ytjmhhgnknjfnlaa.PFnLayouts
namespace Go.Proofs.Ytjmhhgnknjfnlaa.PFnLayouts
open Go.RowKit Go.Proofs.YtjmhhgnknjfnlaaW.PrintWords Go.Proofs.YtjmhhgnknjfnlaaW.PrintLast Go.Proofs.YtjmhhgnknjfnlaaW.PrintMore
attribute [local go_sem] max2_int min2_int max_two min_two max_three min_three max_four min_four
set_option linter.unusedVariables false
set_option linter.unusedSimpArgs false
mutual
def impl_CellOf.j0 : Nat → Int → Bool → List Int → List Int → List Int → Option (Int)
 | 0, _, _, _, _, _ => none
 | k + 1, x1, x13, x295000, x295001, x295002 => if x13 = true then (some (-1)) else (impl_CellOf.l0 k x1 x295002 (x295002.length : Int) 0)
def impl_CellOf.l0 : Nat → Int → List Int → Int → Int → Option (Int)
 | 0, _, _, _, _ => none
 | k + 1, x1, x15, x16, x17 => if x17 < x16 then (if 0 ≤ x17 then (if x17 < (x15.length : Int) then (if (rd x15 x17) = x1 then (some x17) else (impl_CellOf.l0 k x1 x15 x16 (wrap64 (x17 + 1)))) else (none)) else (none)) else (some (-1))
end
def impl_CellOf.f (k : Nat) (l0_0 : List Int) (l0_1 : List Int) (l0_2 : List Int) (a1 : Int) : Option (Int) := (impl_LayoutOk.f k l0_0 l0_1 l0_2).bind fun t295 => (if t295 = true then (impl_CellOf.j0 k a1 (decide (a1 < 0)) l0_0 l0_1 l0_2) else (impl_CellOf.j0 k a1 true l0_0 l0_1 l0_2))
theorem impl_CellOf.mono_l : ∀ k, (∀ y0 y1 y2 y3 y4, LeO (impl_CellOf.j0 k y0 y1 y2 y3 y4) (impl_CellOf.j0 (k + 1) y0 y1 y2 y3 y4)) ∧ (∀ y0 y1 y2 y3, LeO (impl_CellOf.l0 k y0 y1 y2 y3) (impl_CellOf.l0 (k + 1) y0 y1 y2 y3))
 | 0 => ⟨fun _ _ _ _ _ r h => by simp [impl_CellOf.j0] at h, fun _ _ _ _ r h => by simp [impl_CellOf.l0] at h⟩
 | k + 1 => by
  obtain ⟨ih0, ih1⟩ := impl_CellOf.mono_l k; refine ⟨?_, ?_⟩
  ·intro y0 y1 y2 y3 y4
   unfold impl_CellOf.j0
   repeat' first
   | (with_reducible exact ih0 _ _ _ _ _)
   | (with_reducible exact ih1 _ _ _ _)
   | (with_reducible exact impl_LayoutOk.mono _ _ _ _)
   | (with_reducible exact LeO.refl _)
   | (with_reducible exact LeO.none _)
   | (with_reducible refine LeO.ite ?_ ?_)
   | (with_reducible refine LeO.bind ?_ (fun _ => ?_))
   | exact ih0 _ _ _ _ _
   | exact ih1 _ _ _ _
   | exact impl_LayoutOk.mono _ _ _ _
   | exact LeO.none _
   | refine LeO.ite ?_ ?_
   | refine LeO.bind ?_ (fun _ => ?_)
  ·intro y0 y1 y2 y3
   unfold impl_CellOf.l0
   repeat' first
   | (with_reducible exact ih0 _ _ _ _ _)
   | (with_reducible exact ih1 _ _ _ _)
   | (with_reducible exact impl_LayoutOk.mono _ _ _ _)
   | (with_reducible exact LeO.refl _)
   | (with_reducible exact LeO.none _)
   | (with_reducible refine LeO.ite ?_ ?_)
   | (with_reducible refine LeO.bind ?_ (fun _ => ?_))
   | exact ih0 _ _ _ _ _
   | exact ih1 _ _ _ _
   | exact impl_LayoutOk.mono _ _ _ _
   | exact LeO.none _
   | refine LeO.ite ?_ ?_
   | refine LeO.bind ?_ (fun _ => ?_)
theorem impl_CellOf.mono : ∀ a0 a1 a2 a3 k, LeO (impl_CellOf.f k a0 a1 a2 a3) (impl_CellOf.f (k + 1) a0 a1 a2 a3) := by
 intro a0 a1 a2 a3 k; obtain ⟨ih0, ih1⟩ := impl_CellOf.mono_l k; unfold impl_CellOf.f
 repeat' first
   | (with_reducible exact ih0 _ _ _ _ _)
   | (with_reducible exact ih1 _ _ _ _)
   | (with_reducible exact impl_LayoutOk.mono _ _ _ _)
   | (with_reducible exact LeO.refl _)
   | (with_reducible exact LeO.none _)
   | (with_reducible refine LeO.ite ?_ ?_)
   | (with_reducible refine LeO.bind ?_ (fun _ => ?_))
   | exact ih0 _ _ _ _ _
   | exact ih1 _ _ _ _
   | exact impl_LayoutOk.mono _ _ _ _
   | exact LeO.none _
   | refine LeO.ite ?_ ?_
   | refine LeO.bind ?_ (fun _ => ?_)
set_option maxHeartbeats 8000000 in
set_option maxRecDepth 100000 in
theorem impl_CellOf.calls (k : Nat) (A0_0 : Option Addr) (c0_0 : Nat) (l0_0 : List Int) (A0_1 : Option Addr) (c0_1 : Nat) (l0_1 : List Int) (A0_2 : Option Addr) (c0_2 : Nat) (l0_2 : List Int) (a1 : Int) (r : Int) (w : World) (hr0_0 : Kd.C (Kd.int .i64) w A0_0 l0_0.length l0_0) (hc0_0 : l0_0.length ≤ c0_0) (hr0_1 : Kd.C (Kd.int .i64) w A0_1 l0_1.length l0_1) (hc0_1 : l0_1.length ≤ c0_1) (hr0_2 : Kd.C (Kd.int .i64) w A0_2 l0_2.length l0_2) (hc0_2 : l0_2.length ≤ c0_2) (h : impl_CellOf.f k l0_0 l0_1 l0_2 a1 = some r) :
  Calls Try.prog 30 #[.agg #[.slice A0_0 l0_0.length c0_0, .slice A0_1 l0_1.length c0_1, .slice A0_2 l0_2.length c0_2], .int .i64 a1] w fun e w' => e = .returned (.int .i64 r) ∧ Below w.heap.size w w' := by
 have hu39 := Try.underlying39; have HR0_0 := Aside0.mk hr0_0; have HC0_0 := Aside0.mk hc0_0; clear hr0_0 hc0_0; have HR0_1 := Aside0.mk hr0_1; have HC0_1 := Aside0.mk hc0_1; clear hr0_1 hc0_1; have HR0_2 := Aside0.mk hr0_2; have HC0_2 := Aside0.mk hc0_2; clear hr0_2 hc0_2; have HB := Aside0.mk (Below.refl w.heap.size w); have H : ((impl_LayoutOk.f k l0_0 l0_1 l0_2).bind fun t295 => (if t295 = true then (impl_CellOf.j0 k a1 (decide (a1 < 0)) l0_0 l0_1 l0_2) else (impl_CellOf.j0 k a1 true l0_0 l0_1 l0_2))) = some r := h; clear h; have HC3 := Aside0.mk H; clear H; go_enter Try.func30, Try.ntmps30; go_upto_region 1 with (first | ((with_reducible refine gate_dst (N := 2) rfl ?_); refine bx_ (N := 2) (cs := #[.slice A0_0 l0_0.length c0_0, .slice A0_1 l0_1.length c0_1, .slice A0_2 l0_2.length c0_2]) (t := 39) ?_; intro gb294 hg w4 hbox hb; have BK294 := Aside0.mk (hbox); have GW294 := gw_ hg hb_; have GE294 := gw_ hg hb_; replace HB := Aside0.mk (below_step hb_ hb); clear hb hbox hg))
 (try simp only [Act.put, List.setIfInBounds_toArray, List.set_cons_zero, List.set_cons_succ]); go_cut [13] (fun v13 wc => ∃ (kq : Nat) (x13_2 : Bool), v13 = .bool x13_2 ∧ Aside0 (impl_CellOf.j0 kq a1 x13_2 l0_0 l0_1 l0_2 = some r) ∧ Aside0 (kq ≤ k) ∧ Aside0 (wc.heap[gb294]? = some (.cells #[(.slice A0_0 l0_0.length c0_0), (.slice A0_1 l0_1.length c0_1), (.slice A0_2 l0_2.length c0_2)] 39 (0, 0))) ∧ Aside0 (Below w.heap.size w wc))
 case first =>
  have H := HC3.out; clear HC3; replace H := Option.bind_eq_some_iff.mp H; obtain ⟨t295, A50, H⟩ := H; try dsimp only at H
  have A5 := Aside0.mk A50; clear A50; by_cases c6 : t295 = true
  ·subst c6
   rw [if_pos rfl] at H; have H' := Aside0.mk H; clear H; have hz7 := bc3_ BK294.out; go_wp2_with (first | ((with_reducible refine gate_callee (f := 80) rfl ?_); refine gA_ (some 8) Try.func80 (impl_LayoutOk.calls _ _ _ _ _ _ _ _ _ _ _ _ ?side1 ?side2 ?side3 ?side4 ?side5 ?side6 A5.out) ?_; (case side1 => repeat (first | exact (Kd.C_below HR0_0.out HB.out) | (with_reducible refine Kd.C_alloc ?_ _) | (with_reducible refine Kd.C_drewN ?_ _) | (with_reducible refine Kd.C_drew ?_))); (case side2 => exact HC0_0.out); (case side3 => repeat (first | exact (Kd.C_below HR0_1.out HB.out) | (with_reducible refine Kd.C_alloc ?_ _) | (with_reducible refine Kd.C_drewN ?_ _) | (with_reducible refine Kd.C_drew ?_))); (case side4 => exact HC0_1.out); (case side5 => repeat (first | exact (Kd.C_below HR0_2.out HB.out) | (with_reducible refine Kd.C_alloc ?_ _) | (with_reducible refine Kd.C_drewN ?_ _) | (with_reducible refine Kd.C_drew ?_))); (case side6 => exact HC0_2.out); rintro e w8 ⟨rfl, hb⟩; refine ⟨_, rfl, ?_⟩; replace BK294 := bb_ BK294 hb; replace HB := Aside0.mk (below_step hb_ hb); (try clear hb); (try clear hb2); (try clear hk); (try clear hi))); go_meet
   case rel => exact ⟨_, (decide (a1 < 0)), Bc_9, H', ⟨Bc_29⟩, ⟨Bc_23⟩, ⟨hb_⟩⟩
  ·replace c6 := Bool.eq_false_iff.mpr c6
   subst c6; rw [if_neg (show ¬ (false = true) by decide)] at H; have H' := Aside0.mk H; clear H; have hz9 := bc3_ BK294.out; go_wp2_with (first | ((with_reducible refine gate_callee (f := 80) rfl ?_); refine gA_ (some 8) Try.func80 (impl_LayoutOk.calls _ _ _ _ _ _ _ _ _ _ _ _ ?side1 ?side2 ?side3 ?side4 ?side5 ?side6 A5.out) ?_; (case side1 => repeat (first | exact (Kd.C_below HR0_0.out HB.out) | (with_reducible refine Kd.C_alloc ?_ _) | (with_reducible refine Kd.C_drewN ?_ _) | (with_reducible refine Kd.C_drew ?_))); (case side2 => exact HC0_0.out); (case side3 => repeat (first | exact (Kd.C_below HR0_1.out HB.out) | (with_reducible refine Kd.C_alloc ?_ _) | (with_reducible refine Kd.C_drewN ?_ _) | (with_reducible refine Kd.C_drew ?_))); (case side4 => exact HC0_1.out); (case side5 => repeat (first | exact (Kd.C_below HR0_2.out HB.out) | (with_reducible refine Kd.C_alloc ?_ _) | (with_reducible refine Kd.C_drewN ?_ _) | (with_reducible refine Kd.C_drew ?_))); (case side6 => exact HC0_2.out); rintro e w10 ⟨rfl, hb⟩; refine ⟨_, rfl, ?_⟩; replace BK294 := bb_ BK294 hb; replace HB := Aside0.mk (below_step hb_ hb); (try clear hb); (try clear hb2); (try clear hk); (try clear hi))); go_meet
   case rel => exact ⟨_, (true), Bc_9, H', ⟨Bc_29⟩, ⟨Bc_23⟩, ⟨hb_⟩⟩
 case rest =>
  clear HC3; try clear p2; try clear c3; try clear c6; try clear c8; try clear hz7; try clear hz9
  obtain ⟨kq, x13_2, rfl, HA, HJ2, BK294, HB⟩ := hcut; cases kq with
  | zero => exact absurd HA.out (by simp [impl_CellOf.j0])
  | succ kj2 =>
   have H := HA.out; clear HA; simp only [impl_CellOf.j0] at H; by_cases c11 : x13_2 = true
   ·subst c11
    rw [if_pos rfl] at H; obtain rfl := Option.some.inj H; go_wp2; go_ret; exact ⟨Bc_4, hb_⟩
   ·replace c11 := Bool.eq_false_iff.mpr c11
    subst c11; rw [if_neg (show ¬ (false = true) by decide)] at H; have H' := Aside0.mk H; clear H; have hz12 := bc3_ BK294.out; go_wp2; go_loopg [17] kj2 (fun kq v17 w' => ∃ (x17_2 : Int), v17 = .int .i64 x17_2 ∧ Aside0 (impl_CellOf.l0 kq a1 l0_2 (l0_2.length : Int) x17_2 = some r) ∧ Aside0 (kq ≤ kj2) ∧ Aside0 (w'.heap[gb294]? = some (.cells #[(.slice A0_0 l0_0.length c0_0), (.slice A0_1 l0_1.length c0_1), (.slice A0_2 l0_2.length c0_2)] 39 (0, 0))) ∧ Aside0 (Below w.heap.size w w'))
    case atStart => exact ⟨(0), Bc_9, H', ⟨Nat.le_refl _⟩, ⟨Bc_23⟩, ⟨hb_⟩⟩
    case round =>
     clear H'; try clear c1; try clear p2; try clear c3; try clear c6; try clear c8; try clear c11; try clear hz12; try clear hz7; try clear hz9
     obtain ⟨x17_2, rfl, HA, HK2, BK294, HB⟩ := hrel; cases gk with
     | zero => exact absurd HA.out (by simp [impl_CellOf.l0])
     | succ k2 =>
      have H := HA.out; clear HA; simp only [impl_CellOf.l0] at H; by_cases c13 : x17_2 < (l0_2.length : Int)
      ·rw [if_pos c13] at H
       have c13b0 : decide (x17_2 < (l0_2.length : Int)) = true := decide_eq_true c13; clear c13; by_cases c14 : 0 ≤ x17_2
       ·rw [if_pos c14] at H
        have c14b0 : decide (0 ≤ x17_2) = true := decide_eq_true c14; clear c14; by_cases c15 : x17_2 < (l0_2.length : Int)
        ·rw [if_pos c15] at H
         have c15b0 : decide (x17_2 < (l0_2.length : Int)) = true := decide_eq_true c15; clear c15; by_cases c16 : (rd l0_2 x17_2) = a1
         ·rw [if_pos c16] at H
          have c16b0 : ((rd l0_2 x17_2) == a1) = true := beq_iff_eq.mpr c16; have c16b1 : ((rd l0_2 x17_2) != a1) = false := bne_eq_false_iff_eq.mpr c16; clear c16; obtain rfl := Option.some.inj H; have p296 : 0 ≤ (x17_2 : Int) := of_decide_eq_true Bc_8; have q296 : x17_2 < (l0_2.length : Int) := of_decide_eq_true Bc_8; obtain ⟨ad296, e296, hx296_0⟩ := Kd.at_int HR0_2.out x17_2 p296 q296; cases e296; replace hx296_0 := (HB.out.cell (World.block_lt_of_cell? w _ hx296_0)).trans hx296_0; replace p296 := eq_true p296; replace q296 := eq_true q296; go_wp2; go_ret; exact ⟨Bc_4, hb_⟩
         ·rw [if_neg c16] at H
          have c16b0 : ((rd l0_2 x17_2) == a1) = false := beq_eq_false_iff_ne.mpr c16; have c16b1 : ((rd l0_2 x17_2) != a1) = true := bne_iff_ne.mpr c16; have H' := Aside0.mk H; clear H; have p296 : 0 ≤ (x17_2 : Int) := of_decide_eq_true Bc_8; have q296 : x17_2 < (l0_2.length : Int) := of_decide_eq_true Bc_8; obtain ⟨ad296, e296, hx296_0⟩ := Kd.at_int HR0_2.out x17_2 p296 q296; cases e296; replace hx296_0 := (HB.out.cell (World.block_lt_of_cell? w _ hx296_0)).trans hx296_0; replace p296 := eq_true p296; replace q296 := eq_true q296; go_wp2; go_roundg k2
          case measure => have := HJ2.out; have := HK2.out; omega
          case rel => exact ⟨(wrap64 (x17_2 + 1)), Bc_9, H', ⟨(by have := HJ2.out; have := HK2.out; omega)⟩, ⟨Bc_23⟩, ⟨hb_⟩⟩
        ·rw [if_neg c15] at H
         exact absurd H (by simp)
       ·rw [if_neg c14] at H
        exact absurd H (by simp)
      ·rw [if_neg c13] at H
       have c13b0 : decide (x17_2 < (l0_2.length : Int)) = false := decide_eq_false c13; clear c13; obtain rfl := Option.some.inj H; go_wp2; go_ret; exact ⟨Bc_4, hb_⟩
end Go.Proofs.Ytjmhhgnknjfnlaa.PFnLayouts
namespace Go.Proofs.Ytjmhhgnknjfnlaa.PFnLayouts
open Go.RowKit Go.Proofs.YtjmhhgnknjfnlaaW.PrintWords Go.Proofs.YtjmhhgnknjfnlaaW.PrintLast Go.Proofs.YtjmhhgnknjfnlaaW.PrintMore
attribute [local go_sem] max2_int min2_int max_two min_two max_three min_three max_four min_four
set_option linter.unusedVariables false
set_option linter.unusedSimpArgs false
def impl_Kept.l0 : Nat → List Int → Int → List Int → List Int → List Int → List Int → List Int → List Int → Option (List Int)
 | 0, _, _, _, _, _, _, _, _ => none
 | k + 1, x5, x8, x298000, x298001, x298002, x299000, x299001, x299002 => if x8 < 6 then ((impl_CellOf.f k x298000 x298001 x298002 x8).bind fun t302 => (if t302 ≥ 0 then ((impl_CellOf.f k x299000 x299001 x299002 x8).bind fun t303 => (if t303 ≥ 0 then (if x5.length < 17592186044416 then (impl_Kept.l0 k (x5 ++ [x8]) (wrap64 (x8 + 1)) x298000 x298001 x298002 x299000 x299001 x299002) else (none)) else (impl_Kept.l0 k x5 (wrap64 (x8 + 1)) x298000 x298001 x298002 x299000 x299001 x299002))) else (impl_Kept.l0 k x5 (wrap64 (x8 + 1)) x298000 x298001 x298002 x299000 x299001 x299002))) else (some x5)
def impl_Kept.f (k : Nat) (l0_0 : List Int) (l0_1 : List Int) (l0_2 : List Int) (l1_0 : List Int) (l1_1 : List Int) (l1_2 : List Int) : Option (List Int) := impl_Kept.l0 k (([] : List Int)) 0 l0_0 l0_1 l0_2 l1_0 l1_1 l1_2
theorem impl_Kept.mono_l : ∀ k, (∀ y0 y1 y2 y3 y4 y5 y6 y7, LeO (impl_Kept.l0 k y0 y1 y2 y3 y4 y5 y6 y7) (impl_Kept.l0 (k + 1) y0 y1 y2 y3 y4 y5 y6 y7))
 | 0 => fun _ _ _ _ _ _ _ _ r h => by simp [impl_Kept.l0] at h
 | k + 1 => by
  have ih0 := impl_Kept.mono_l k
  ·intro y0 y1 y2 y3 y4 y5 y6 y7
   unfold impl_Kept.l0
   repeat' first
   | (with_reducible exact ih0 _ _ _ _ _ _ _ _)
   | (with_reducible exact impl_CellOf.mono _ _ _ _ _)
   | (with_reducible exact LeO.refl _)
   | (with_reducible exact LeO.none _)
   | (with_reducible refine LeO.ite ?_ ?_)
   | (with_reducible refine LeO.bind ?_ (fun _ => ?_))
   | exact ih0 _ _ _ _ _ _ _ _
   | exact impl_CellOf.mono _ _ _ _ _
   | exact LeO.none _
   | refine LeO.ite ?_ ?_
   | refine LeO.bind ?_ (fun _ => ?_)
theorem impl_Kept.mono : ∀ a0 a1 a2 a3 a4 a5 k, LeO (impl_Kept.f k a0 a1 a2 a3 a4 a5) (impl_Kept.f (k + 1) a0 a1 a2 a3 a4 a5) := by
 intro a0 a1 a2 a3 a4 a5 k; have ih0 := impl_Kept.mono_l k; unfold impl_Kept.f
 repeat' first
   | (with_reducible exact ih0 _ _ _ _ _ _ _ _)
   | (with_reducible exact impl_CellOf.mono _ _ _ _ _)
   | (with_reducible exact LeO.refl _)
   | (with_reducible exact LeO.none _)
   | (with_reducible refine LeO.ite ?_ ?_)
   | (with_reducible refine LeO.bind ?_ (fun _ => ?_))
   | exact ih0 _ _ _ _ _ _ _ _
   | exact impl_CellOf.mono _ _ _ _ _
   | exact LeO.none _
   | refine LeO.ite ?_ ?_
   | refine LeO.bind ?_ (fun _ => ?_)
set_option maxHeartbeats 8000000 in
set_option maxRecDepth 100000 in
theorem impl_Kept.calls (k : Nat) (A0_0 : Option Addr) (c0_0 : Nat) (l0_0 : List Int) (A0_1 : Option Addr) (c0_1 : Nat) (l0_1 : List Int) (A0_2 : Option Addr) (c0_2 : Nat) (l0_2 : List Int) (A1_0 : Option Addr) (c1_0 : Nat) (l1_0 : List Int) (A1_1 : Option Addr) (c1_1 : Nat) (l1_1 : List Int) (A1_2 : Option Addr) (c1_2 : Nat) (l1_2 : List Int) (r : List Int) (w : World) (hr0_0 : Kd.C (Kd.int .i64) w A0_0 l0_0.length l0_0) (hc0_0 : l0_0.length ≤ c0_0) (hr0_1 : Kd.C (Kd.int .i64) w A0_1 l0_1.length l0_1) (hc0_1 : l0_1.length ≤ c0_1) (hr0_2 : Kd.C (Kd.int .i64) w A0_2 l0_2.length l0_2) (hc0_2 : l0_2.length ≤ c0_2) (hr1_0 : Kd.C (Kd.int .i64) w A1_0 l1_0.length l1_0) (hc1_0 : l1_0.length ≤ c1_0) (hr1_1 : Kd.C (Kd.int .i64) w A1_1 l1_1.length l1_1) (hc1_1 : l1_1.length ≤ c1_1) (hr1_2 : Kd.C (Kd.int .i64) w A1_2 l1_2.length l1_2) (hc1_2 : l1_2.length ≤ c1_2) (h : impl_Kept.f k l0_0 l0_1 l0_2 l1_0 l1_1 l1_2 = some r) :
  Calls Try.prog 26 #[.agg #[.slice A0_0 l0_0.length c0_0, .slice A0_1 l0_1.length c0_1, .slice A0_2 l0_2.length c0_2], .agg #[.slice A1_0 l1_0.length c1_0, .slice A1_1 l1_1.length c1_1, .slice A1_2 l1_2.length c1_2]] w fun e w' => ∃ v0_ : Value, e = .returned (v0_) ∧ Kd.R (Kd.int .i64) 3 w' w.heap.size (fun _ => True) v0_ r ∧ Below w.heap.size w w' := by
 have hu39 := Try.underlying39; have HR0_0 := Aside0.mk hr0_0; have HC0_0 := Aside0.mk hc0_0; clear hr0_0 hc0_0; have HR0_1 := Aside0.mk hr0_1; have HC0_1 := Aside0.mk hc0_1; clear hr0_1 hc0_1; have HR0_2 := Aside0.mk hr0_2; have HC0_2 := Aside0.mk hc0_2; clear hr0_2 hc0_2; have HR1_0 := Aside0.mk hr1_0; have HC1_0 := Aside0.mk hc1_0; clear hr1_0 hc1_0; have HR1_1 := Aside0.mk hr1_1; have HC1_1 := Aside0.mk hc1_1; clear hr1_1 hc1_1; have HR1_2 := Aside0.mk hr1_2; have HC1_2 := Aside0.mk hc1_2; clear hr1_2 hc1_2; have HB := Aside0.mk (Below.refl w.heap.size w); have H : (impl_Kept.l0 k (([] : List Int)) 0 l0_0 l0_1 l0_2 l1_0 l1_1 l1_2) = some r := h; clear h; obtain ⟨y299, hy299⟩ : ∃ y_ : List Int, y_ = (([] : List Int)) := ⟨_, rfl⟩; replace H : (impl_Kept.l0 k y299 0 l0_0 l0_1 l0_2 l1_0 l1_1 l1_2) = some r := by first | (rw [hy299]; with_reducible exact H) | (have H2_ := (Option.bind_some _ _).symm.trans H; rw [hy299]; with_reducible exact H2_) | (have H2_ := (Option.bind_some _ _).symm.trans H; with_reducible exact H2_) | with_reducible exact H | (rw [hy299]; exact H) | exact H
 have Ny299 := Aside0.mk hy299; clear hy299; have H' := Aside0.mk H; clear H; go_enter Try.func26, Try.ntmps26; go_wp2_with (first | ((with_reducible refine gate_dst (N := 2) rfl ?_); refine bx_ (N := 2) (cs := #[.slice A0_0 l0_0.length c0_0, .slice A0_1 l0_1.length c0_1, .slice A0_2 l0_2.length c0_2]) (t := 39) ?_; intro gb297 hg w3 hbox hb; have BK297 := Aside0.mk (hbox); have GW297 := gw_ hg hb_; have GE297 := gw_ hg hb_; replace HB := Aside0.mk (below_step hb_ hb); clear hb hbox hg) | ((with_reducible refine gate_dst (N := 3) rfl ?_); refine bx_ (N := 3) (cs := #[.slice A1_0 l1_0.length c1_0, .slice A1_1 l1_1.length c1_1, .slice A1_2 l1_2.length c1_2]) (t := 39) ?_; intro gb298 hg w4 hbox hb; have BK298 := Aside0.mk (hbox); have GW298 := gw_ hg hb_; have GE298 := gw_ hg hb_; replace HB := Aside0.mk (below_step hb_ hb); obtain ⟨NB297_298, NB298_297, BK297⟩ := nb_ hg hb BK297; clear hb hbox hg) | ((with_reducible refine gate_dst (N := 7) rfl ?_); refine Kd.R_lit (Kd.int .i64) _ 3 ?hg (N := 7) ?hd (xs := ([] : List Int)) (inner := []) (ok := fun _ => True) (okp := fun _ => True) ?hr ?hp (fun _ hk => hk) trivial (Below.refl _ _) (Nat.le_refl _) (by simp) ?_; (case hd => rfl); (case hg => rfl); (case hr => first | (go_simp; done) | (go_simp; rfl)); (case hp => exact (Reps.none _ _)); intro v300 w5 ho6 hb hg_ hnew_; clear hg_ hnew_; (first | rw [← Ny299.out] at ho6 | (simp only [Int.reduceToNat] at ho6; rw [← Ny299.out] at ho6)); have HO301 := Aside0.mk (Kd.R_lower ho6 (below_size hb_)); replace BK297 := bb_ BK297 hb; replace BK298 := bb_ BK298 hb; replace HB := Aside0.mk (below_step hb_ hb); clear hb ho6)); go_loopg [5, 8] k (fun kq v5 v8 w' => ∃ (x5_1 : List Int) (x8_1 : Int), v8 = .int .i64 x8_1 ∧ Aside0 (impl_Kept.l0 kq x5_1 x8_1 l0_0 l0_1 l0_2 l1_0 l1_1 l1_2 = some r) ∧ Aside0 (kq ≤ k) ∧ Aside0 (Kd.R (Kd.int .i64) 3 w' w.heap.size (fun _ => True) v5 x5_1) ∧ Aside0 (w'.heap[gb297]? = some (.cells #[(.slice A0_0 l0_0.length c0_0), (.slice A0_1 l0_1.length c0_1), (.slice A0_2 l0_2.length c0_2)] 39 (0, 0))) ∧ Aside0 (w'.heap[gb298]? = some (.cells #[(.slice A1_0 l1_0.length c1_0), (.slice A1_1 l1_1.length c1_1), (.slice A1_2 l1_2.length c1_2)] 39 (0, 0))) ∧ Aside0 (Below w.heap.size w w'))
 case atStart => exact ⟨(y299), (0), Bc_9, H', ⟨Nat.le_refl _⟩, ⟨(by (with_reducible repeat (first | apply Kd.R_alloc | apply Kd.R_drewN | apply Kd.R_drew)); exact HO301.out)⟩, ⟨Bc_12⟩, ⟨Bc_13⟩, ⟨hb_⟩⟩
 case round =>
  clear H'; try clear c1; try clear c2; try clear p2
  obtain ⟨x5_1, x8_1, rfl, HA, HK1, HO_5, BK297, BK298, HB⟩ := hrel; cases gk with
  | zero => exact absurd HA.out (by simp [impl_Kept.l0])
  | succ k1 =>
   have H := HA.out; clear HA; simp only [impl_Kept.l0] at H; by_cases c7 : x8_1 < 6
   ·rw [if_pos c7] at H
    have c7b0 : decide (x8_1 < 6) = true := decide_eq_true c7; clear c7; replace H := Option.bind_eq_some_iff.mp H; obtain ⟨t302, A80, H⟩ := H; try dsimp only at H
    have A8 := Aside0.mk A80; clear A80; by_cases c9 : t302 ≥ 0
    ·rw [if_pos c9] at H
     have c9b0 : decide (0 ≤ t302) = true := decide_eq_true c9; clear c9; replace H := Option.bind_eq_some_iff.mp H; obtain ⟨t303, A100, H⟩ := H; try dsimp only at H
     have A10 := Aside0.mk A100; clear A100; have HC11 := Aside0.mk H; clear H; have hnb12 := NB297_298.out; have hnc12 := NB298_297.out; have hz13 := bc3_ BK297.out; go_upto_if 20 with (first | ((with_reducible refine gate_callee (f := 30) rfl ?_); refine gA_ (some 13) Try.func30 (impl_CellOf.calls _ _ _ _ _ _ _ _ _ _ _ _ _ ?side1 ?side2 ?side3 ?side4 ?side5 ?side6 A8.out) ?_; (case side1 => repeat (first | exact (Kd.C_below HR0_0.out HB.out) | (with_reducible refine Kd.C_alloc ?_ _) | (with_reducible refine Kd.C_drewN ?_ _) | (with_reducible refine Kd.C_drew ?_))); (case side2 => exact HC0_0.out); (case side3 => repeat (first | exact (Kd.C_below HR0_1.out HB.out) | (with_reducible refine Kd.C_alloc ?_ _) | (with_reducible refine Kd.C_drewN ?_ _) | (with_reducible refine Kd.C_drew ?_))); (case side4 => exact HC0_1.out); (case side5 => repeat (first | exact (Kd.C_below HR0_2.out HB.out) | (with_reducible refine Kd.C_alloc ?_ _) | (with_reducible refine Kd.C_drewN ?_ _) | (with_reducible refine Kd.C_drew ?_))); (case side6 => exact HC0_2.out); rintro e w14 ⟨rfl, hb⟩; refine ⟨_, rfl, ?_⟩; replace HO_5 := Aside0.mk (Kd.R_below Bc_10 hb); replace BK297 := bb_ BK297 hb; replace BK298 := bb_ BK298 hb; replace HB := Aside0.mk (below_step hb_ hb); (try clear hb); (try clear hb2); (try clear hk); (try clear hi); have hz15 := bc3_ BK298.out) | (go_at_call 30; (with_reducible refine (impl_CellOf.calls k1 _ _ l1_0 _ _ l1_1 _ _ l1_2 x8_1 t303 _ ?side1 ?side2 ?side3 ?side4 ?side5 ?side6 A10.out).mono ?_); (case side1 => repeat (first | exact (Kd.C_below HR1_0.out HB.out) | (with_reducible refine Kd.C_alloc ?_ _) | (with_reducible refine Kd.C_drewN ?_ _) | (with_reducible refine Kd.C_drew ?_))); (case side2 => exact HC1_0.out); (case side3 => repeat (first | exact (Kd.C_below HR1_1.out HB.out) | (with_reducible refine Kd.C_alloc ?_ _) | (with_reducible refine Kd.C_drewN ?_ _) | (with_reducible refine Kd.C_drew ?_))); (case side4 => exact HC1_1.out); (case side5 => repeat (first | exact (Kd.C_below HR1_2.out HB.out) | (with_reducible refine Kd.C_alloc ?_ _) | (with_reducible refine Kd.C_drewN ?_ _) | (with_reducible refine Kd.C_drew ?_))); (case side6 => exact HC1_2.out); rintro e w16 ⟨rfl, hb⟩; replace HO_5 := Aside0.mk (Kd.R_below Bc_10 hb); replace BK297 := bb_ BK297 hb; replace BK298 := bb_ BK298 hb; replace HB := Aside0.mk (below_step hb_ hb); (try clear hb); (try clear hb2); (try clear hk); (try clear hi)))
     (try simp only [Act.put, List.setIfInBounds_toArray, List.set_cons_zero, List.set_cons_succ]); have H := HC11.out; clear HC11; by_cases c17 : t303 ≥ 0
     ·rw [if_pos c17] at H
      have c17b0 : decide (0 ≤ t303) = true := decide_eq_true c17; clear c17; (first | rw [c17b0] | (simp only [i64_w, i32_w]; rw [c17b0]) | skip); by_cases c18 : x5_1.length < 17592186044416
      ·rw [if_pos c18] at H
       have LMc18 := Aside0.mk c18; clear c18; obtain ⟨y304, hy304⟩ : ∃ y_ : List Int, y_ = (x5_1 ++ [x8_1]) := ⟨_, rfl⟩; replace H : (impl_Kept.l0 k1 y304 (wrap64 (x8_1 + 1)) l0_0 l0_1 l0_2 l1_0 l1_1 l1_2) = some r := by first | (rw [hy304]; with_reducible exact H) | (have H2_ := (Option.bind_some _ _).symm.trans H; rw [hy304]; with_reducible exact H2_) | (have H2_ := (Option.bind_some _ _).symm.trans H; with_reducible exact H2_) | with_reducible exact H | (rw [hy304]; exact H) | exact H
       have Ny304 := Aside0.mk hy304; clear hy304; have H' := Aside0.mk H; clear H; go_wp2_with (first | ((with_reducible refine gate_builtin (b := .append) (xs := #[.tmp 21, .tmp 23]) rfl ?_); at_builtin; refine Kd.R_append (Kd.int .i64) (w0 := w) w.heap.size rfl (.tmp 21) (.tmp 23) 37 3 (.int .i64 0) 8 rfl Try.underlying37 info3 rfl (by decide) (by omega) u5 x5_1 x8_1 [.int .i64 x8_1] (fun _ => True) (fun _ => False) rfl rfl ?aP (fun _ hk => hk.elim) ?aF ?aO ?aB ?aS ?aL ?_; (case aP => exact rfl); (case aB => exact hb_); (case aF => exact (fun _ _ => trivial)); (case aO => exact Bc_10); (case aS => exact (below_size hb_)); (case aL => have := LMc18.out; omega); intro v305 w19 ho hb hg hat; rw [← Ny304.out] at ho; replace BK297 := Aside0.mk (blk_grown (g := gb297) (o := .cells #[.slice A0_0 l0_0.length c0_0, .slice A0_1 l0_1.length c0_1, .slice A0_2 l0_2.length c0_2] 39 (0, 0)) Bc_12 hg (Kd.R_ne HO_5.out BK297.out (by decide))); replace BK298 := Aside0.mk (blk_grown (g := gb298) (o := .cells #[.slice A1_0 l1_0.length c1_0, .slice A1_1 l1_1.length c1_1, .slice A1_2 l1_2.length c1_2] 39 (0, 0)) Bc_13 hg (Kd.R_ne HO_5.out BK298.out (by decide))); replace HB := Aside0.mk (hb); have HO306 := Aside0.mk (ho); clear HO_5; clear ho hb hg hat)); go_roundg k1
       case measure => have := HK1.out; omega
       case rel => exact ⟨(y304), (wrap64 (x8_1 + 1)), Bc_9, H', ⟨Bc_28⟩, ⟨(by (with_reducible repeat (first | apply Kd.R_alloc | apply Kd.R_drewN | apply Kd.R_drew)); exact HO306.out)⟩, ⟨Bc_12⟩, ⟨Bc_13⟩, ⟨hb_⟩⟩
      ·rw [if_neg c18] at H
       exact absurd H (by simp)
     ·rw [if_neg c17] at H
      have c17b0 : decide (0 ≤ t303) = false := decide_eq_false c17; clear c17; (first | rw [c17b0] | (simp only [i64_w, i32_w]; rw [c17b0]) | skip); have H' := Aside0.mk H; clear H; go_wp2; go_roundg k1
      case measure => have := HK1.out; omega
      case rel => exact ⟨(x5_1), (wrap64 (x8_1 + 1)), Bc_9, H', ⟨Bc_28⟩, ⟨Bc_10⟩, ⟨Bc_12⟩, ⟨Bc_13⟩, ⟨hb_⟩⟩
    ·rw [if_neg c9] at H
     have c9b0 : decide (0 ≤ t302) = false := decide_eq_false c9; clear c9; have H' := Aside0.mk H; clear H; have hnb20 := NB297_298.out; have hnc20 := NB298_297.out; have hz21 := bc3_ BK297.out; go_wp2_with (first | ((with_reducible refine gate_callee (f := 30) rfl ?_); refine gA_ (some 13) Try.func30 (impl_CellOf.calls _ _ _ _ _ _ _ _ _ _ _ _ _ ?side1 ?side2 ?side3 ?side4 ?side5 ?side6 A8.out) ?_; (case side1 => repeat (first | exact (Kd.C_below HR0_0.out HB.out) | (with_reducible refine Kd.C_alloc ?_ _) | (with_reducible refine Kd.C_drewN ?_ _) | (with_reducible refine Kd.C_drew ?_))); (case side2 => exact HC0_0.out); (case side3 => repeat (first | exact (Kd.C_below HR0_1.out HB.out) | (with_reducible refine Kd.C_alloc ?_ _) | (with_reducible refine Kd.C_drewN ?_ _) | (with_reducible refine Kd.C_drew ?_))); (case side4 => exact HC0_1.out); (case side5 => repeat (first | exact (Kd.C_below HR0_2.out HB.out) | (with_reducible refine Kd.C_alloc ?_ _) | (with_reducible refine Kd.C_drewN ?_ _) | (with_reducible refine Kd.C_drew ?_))); (case side6 => exact HC0_2.out); rintro e w22 ⟨rfl, hb⟩; refine ⟨_, rfl, ?_⟩; replace HO_5 := Aside0.mk (Kd.R_below Bc_10 hb); replace BK297 := bb_ BK297 hb; replace BK298 := bb_ BK298 hb; replace HB := Aside0.mk (below_step hb_ hb); (try clear hb); (try clear hb2); (try clear hk); (try clear hi))); go_roundg k1
     case measure => have := HK1.out; omega
     case rel => exact ⟨(x5_1), (wrap64 (x8_1 + 1)), Bc_9, H', ⟨Bc_28⟩, ⟨Bc_10⟩, ⟨Bc_12⟩, ⟨Bc_13⟩, ⟨hb_⟩⟩
   ·rw [if_neg c7] at H
    have c7b0 : decide (x8_1 < 6) = false := decide_eq_false c7; clear c7; obtain rfl := Option.some.inj H; go_wp2; go_ret; exact ⟨_, Bc_4, Bc_10, hb_⟩
end Go.Proofs.Ytjmhhgnknjfnlaa.PFnLayouts
namespace Go.Proofs.Ytjmhhgnknjfnlaa.PFnLayouts
open Go.RowKit Go.Proofs.YtjmhhgnknjfnlaaW.PrintWords Go.Proofs.YtjmhhgnknjfnlaaW.PrintLast Go.Proofs.YtjmhhgnknjfnlaaW.PrintMore
attribute [local go_sem] max2_int min2_int max_two min_two max_three min_three max_four min_four
set_option linter.unusedVariables false
set_option linter.unusedSimpArgs false
def laws_sameInts.l0 : Nat → List Int → List Int → Int → Option (Bool)
 | 0, _, _, _ => none
 | k + 1, x0, x1, x5 => if x5 < (x0.length : Int) then (if 0 ≤ x5 then (if x5 < (x1.length : Int) then (if (rd x0 x5) = (rd x1 x5) then (laws_sameInts.l0 k x0 x1 (wrap64 (x5 + 1))) else (some false)) else (none)) else (none)) else (some true)
def laws_sameInts.f (k : Nat) (l0 : List Int) (l1 : List Int) : Option (Bool) := if (l0.length : Int) = (l1.length : Int) then (laws_sameInts.l0 k l0 l1 0) else (some false)
theorem laws_sameInts.mono_l : ∀ k, (∀ y0 y1 y2, LeO (laws_sameInts.l0 k y0 y1 y2) (laws_sameInts.l0 (k + 1) y0 y1 y2))
 | 0 => fun _ _ _ r h => by simp [laws_sameInts.l0] at h
 | k + 1 => by
  have ih0 := laws_sameInts.mono_l k
  ·intro y0 y1 y2
   unfold laws_sameInts.l0
   repeat' first
   | (with_reducible exact ih0 _ _ _)
   | (with_reducible exact LeO.refl _)
   | (with_reducible exact LeO.none _)
   | (with_reducible refine LeO.ite ?_ ?_)
   | (with_reducible refine LeO.bind ?_ (fun _ => ?_))
   | exact ih0 _ _ _
   | exact LeO.none _
   | refine LeO.ite ?_ ?_
   | refine LeO.bind ?_ (fun _ => ?_)
theorem laws_sameInts.mono : ∀ a0 a1 k, LeO (laws_sameInts.f k a0 a1) (laws_sameInts.f (k + 1) a0 a1) := by
 intro a0 a1 k; have ih0 := laws_sameInts.mono_l k; unfold laws_sameInts.f
 repeat' first
   | (with_reducible exact ih0 _ _ _)
   | (with_reducible exact LeO.refl _)
   | (with_reducible exact LeO.none _)
   | (with_reducible refine LeO.ite ?_ ?_)
   | (with_reducible refine LeO.bind ?_ (fun _ => ?_))
   | exact ih0 _ _ _
   | exact LeO.none _
   | refine LeO.ite ?_ ?_
   | refine LeO.bind ?_ (fun _ => ?_)
set_option maxHeartbeats 8000000 in
set_option maxRecDepth 100000 in
theorem laws_sameInts.calls (k : Nat) (A0 : Option Addr) (c0 : Nat) (l0 : List Int) (A1 : Option Addr) (c1 : Nat) (l1 : List Int) (r : Bool) (w : World) (hr0 : Kd.C (Kd.int .i64) w A0 l0.length l0) (hc0 : l0.length ≤ c0) (hr1 : Kd.C (Kd.int .i64) w A1 l1.length l1) (hc1 : l1.length ≤ c1) (h : laws_sameInts.f k l0 l1 = some r) :
  Calls Try.prog 85 #[.slice A0 l0.length c0, .slice A1 l1.length c1] w fun e w' => e = .returned (.bool r) ∧ Drawn0 w w' := by
 have HR0 := Aside0.mk hr0; have HC0 := Aside0.mk hc0; clear hr0 hc0; have HR1 := Aside0.mk hr1; have HC1 := Aside0.mk hc1; clear hr1 hc1; have H : (if (l0.length : Int) = (l1.length : Int) then (laws_sameInts.l0 k l0 l1 0) else (some false)) = some r := h; clear h; by_cases c3 : (l0.length : Int) = (l1.length : Int)
 ·rw [if_pos c3] at H
  have c3b0 : ((l0.length : Int) == (l1.length : Int)) = true := beq_iff_eq.mpr c3; have c3b1 : ((l0.length : Int) != (l1.length : Int)) = false := bne_eq_false_iff_eq.mpr c3; have c3b2 : (l0.length == l1.length) = true := by first | simpa using c3 | (simp at c3 ⊢; omega)
  clear c3; have H' := Aside0.mk H; clear H; go_enter Try.func85, Try.ntmps85; go_wp2
  repeat (go_quiet (fail); try go_wp2)
  go_loopg [5] k (fun kq v5 w' => ∃ (x5_1 : Int), v5 = .int .i64 x5_1 ∧ Aside0 (laws_sameInts.l0 kq l0 l1 x5_1 = some r) ∧ Aside0 (kq ≤ k) ∧ Drawn0 w w')
  case atStart => exact ⟨(0), Bc_9, H', ⟨Nat.le_refl _⟩, Bc_24⟩
  case round =>
   clear H'; try clear c1; try clear p2; try clear c3; try clear c3b0; try clear c3b1; try clear c3b2
   obtain ⟨x5_1, rfl, HA, HK1, ⟨m1, rfl⟩⟩ := hrel; cases gk with
   | zero => exact absurd HA.out (by simp [laws_sameInts.l0])
   | succ k1 =>
    have H := HA.out; clear HA; simp only [laws_sameInts.l0] at H; by_cases c4 : x5_1 < (l0.length : Int)
    ·rw [if_pos c4] at H
     have c4b0 : decide (x5_1 < (l0.length : Int)) = true := decide_eq_true c4; clear c4; by_cases c5 : 0 ≤ x5_1
     ·rw [if_pos c5] at H
      have c5b0 : decide (0 ≤ x5_1) = true := decide_eq_true c5; clear c5; by_cases c6 : x5_1 < (l1.length : Int)
      ·rw [if_pos c6] at H
       have c6b0 : decide (x5_1 < (l1.length : Int)) = true := decide_eq_true c6; clear c6; by_cases c7 : (rd l0 x5_1) = (rd l1 x5_1)
       ·rw [if_pos c7] at H
        have c7b0 : ((rd l0 x5_1) == (rd l1 x5_1)) = true := beq_iff_eq.mpr c7; have c7b1 : ((rd l0 x5_1) != (rd l1 x5_1)) = false := bne_eq_false_iff_eq.mpr c7; clear c7; have H' := Aside0.mk H; clear H; have p307 : 0 ≤ (x5_1 : Int) := of_decide_eq_true Bc_8; have q307 : x5_1 < (l0.length : Int) := of_decide_eq_true Bc_8; obtain ⟨ad307, e307, hx307_0⟩ := Kd.at_int HR0.out x5_1 p307 q307; cases e307; replace p307 := eq_true p307; replace q307 := eq_true q307; have p308 : 0 ≤ (x5_1 : Int) := of_decide_eq_true Bc_8; have q308 : x5_1 < (l1.length : Int) := of_decide_eq_true Bc_8; obtain ⟨ad308, e308, hx308_0⟩ := Kd.at_int HR1.out x5_1 p308 q308; cases e308; replace p308 := eq_true p308; replace q308 := eq_true q308; go_wp2
        repeat (go_quiet (fail); try go_wp2)
        go_roundg k1
        case measure => have := HK1.out; omega
        case rel => exact ⟨(wrap64 (x5_1 + 1)), Bc_9, H', ⟨Bc_28⟩, Bc_24⟩
       ·rw [if_neg c7] at H
        have c7b0 : ((rd l0 x5_1) == (rd l1 x5_1)) = false := beq_eq_false_iff_ne.mpr c7; have c7b1 : ((rd l0 x5_1) != (rd l1 x5_1)) = true := bne_iff_ne.mpr c7; obtain rfl := Option.some.inj H; have p307 : 0 ≤ (x5_1 : Int) := of_decide_eq_true Bc_8; have q307 : x5_1 < (l0.length : Int) := of_decide_eq_true Bc_8; obtain ⟨ad307, e307, hx307_0⟩ := Kd.at_int HR0.out x5_1 p307 q307; cases e307; replace p307 := eq_true p307; replace q307 := eq_true q307; have p308 : 0 ≤ (x5_1 : Int) := of_decide_eq_true Bc_8; have q308 : x5_1 < (l1.length : Int) := of_decide_eq_true Bc_8; obtain ⟨ad308, e308, hx308_0⟩ := Kd.at_int HR1.out x5_1 p308 q308; cases e308; replace p308 := eq_true p308; replace q308 := eq_true q308; go_wp2
        repeat (go_quiet (fail); try go_wp2)
        go_ret; exact ⟨Bc_9, Bc_24⟩
      ·rw [if_neg c6] at H
       exact absurd H (by simp)
     ·rw [if_neg c5] at H
      exact absurd H (by simp)
    ·rw [if_neg c4] at H
     have c4b0 : decide (x5_1 < (l0.length : Int)) = false := decide_eq_false c4; clear c4; obtain rfl := Option.some.inj H; go_wp2
     repeat (go_quiet (fail); try go_wp2)
     go_ret; exact ⟨Bc_9, Bc_24⟩
 ·rw [if_neg c3] at H
  have c3b0 : ((l0.length : Int) == (l1.length : Int)) = false := beq_eq_false_iff_ne.mpr c3; have c3b1 : ((l0.length : Int) != (l1.length : Int)) = true := bne_iff_ne.mpr c3; have c3b2 : (l0.length == l1.length) = false := by first | simpa using c3 | (simp at c3 ⊢; omega)
  obtain rfl := Option.some.inj H; go_enter Try.func85, Try.ntmps85; go_wp2
  repeat (go_quiet (fail); try go_wp2)
  go_ret; exact ⟨Bc_9, Bc_24⟩
end Go.Proofs.Ytjmhhgnknjfnlaa.PFnLayouts
namespace Go.Proofs.Ytjmhhgnknjfnlaa.PFnLayouts
open Go.RowKit Go.Proofs.YtjmhhgnknjfnlaaW.PrintWords Go.Proofs.YtjmhhgnknjfnlaaW.PrintLast Go.Proofs.YtjmhhgnknjfnlaaW.PrintMore
attribute [local go_sem] max2_int min2_int max_two min_two max_three min_three max_four min_four
set_option linter.unusedVariables false
set_option linter.unusedSimpArgs false
def laws_sameLayout.f (k : Nat) (l0_0 : List Int) (l0_1 : List Int) (l0_2 : List Int) (l1_0 : List Int) (l1_1 : List Int) (l1_2 : List Int) : Option (Bool) := (laws_sameInts.f k l0_0 l1_0).bind fun t311 => (if t311 = true then ((laws_sameInts.f k l0_1 l1_1).bind fun t312 => (if t312 = true then ((laws_sameInts.f k l0_2 l1_2).bind fun t313 => (some t313)) else (some false))) else (some false))
theorem laws_sameLayout.mono : ∀ a0 a1 a2 a3 a4 a5 k, LeO (laws_sameLayout.f k a0 a1 a2 a3 a4 a5) (laws_sameLayout.f (k + 1) a0 a1 a2 a3 a4 a5) := by
 intro a0 a1 a2 a3 a4 a5 k; unfold laws_sameLayout.f
 repeat' first
   | (with_reducible exact laws_sameInts.mono _ _ _)
   | (with_reducible exact LeO.refl _)
   | (with_reducible exact LeO.none _)
   | (with_reducible refine LeO.ite ?_ ?_)
   | (with_reducible refine LeO.bind ?_ (fun _ => ?_))
   | exact laws_sameInts.mono _ _ _
   | exact LeO.none _
   | refine LeO.ite ?_ ?_
   | refine LeO.bind ?_ (fun _ => ?_)
set_option maxHeartbeats 8000000 in
set_option maxRecDepth 100000 in
theorem laws_sameLayout.calls (k : Nat) (A0_0 : Option Addr) (c0_0 : Nat) (l0_0 : List Int) (A0_1 : Option Addr) (c0_1 : Nat) (l0_1 : List Int) (A0_2 : Option Addr) (c0_2 : Nat) (l0_2 : List Int) (A1_0 : Option Addr) (c1_0 : Nat) (l1_0 : List Int) (A1_1 : Option Addr) (c1_1 : Nat) (l1_1 : List Int) (A1_2 : Option Addr) (c1_2 : Nat) (l1_2 : List Int) (r : Bool) (w : World) (hr0_0 : Kd.C (Kd.int .i64) w A0_0 l0_0.length l0_0) (hc0_0 : l0_0.length ≤ c0_0) (hr0_1 : Kd.C (Kd.int .i64) w A0_1 l0_1.length l0_1) (hc0_1 : l0_1.length ≤ c0_1) (hr0_2 : Kd.C (Kd.int .i64) w A0_2 l0_2.length l0_2) (hc0_2 : l0_2.length ≤ c0_2) (hr1_0 : Kd.C (Kd.int .i64) w A1_0 l1_0.length l1_0) (hc1_0 : l1_0.length ≤ c1_0) (hr1_1 : Kd.C (Kd.int .i64) w A1_1 l1_1.length l1_1) (hc1_1 : l1_1.length ≤ c1_1) (hr1_2 : Kd.C (Kd.int .i64) w A1_2 l1_2.length l1_2) (hc1_2 : l1_2.length ≤ c1_2) (h : laws_sameLayout.f k l0_0 l0_1 l0_2 l1_0 l1_1 l1_2 = some r) :
  Calls Try.prog 27 #[.agg #[.slice A0_0 l0_0.length c0_0, .slice A0_1 l0_1.length c0_1, .slice A0_2 l0_2.length c0_2], .agg #[.slice A1_0 l1_0.length c1_0, .slice A1_1 l1_1.length c1_1, .slice A1_2 l1_2.length c1_2]] w fun e w' => e = .returned (.bool r) ∧ Below w.heap.size w w' := by
 have hu39 := Try.underlying39; have HR0_0 := Aside0.mk hr0_0; have HC0_0 := Aside0.mk hc0_0; clear hr0_0 hc0_0; have HR0_1 := Aside0.mk hr0_1; have HC0_1 := Aside0.mk hc0_1; clear hr0_1 hc0_1; have HR0_2 := Aside0.mk hr0_2; have HC0_2 := Aside0.mk hc0_2; clear hr0_2 hc0_2; have HR1_0 := Aside0.mk hr1_0; have HC1_0 := Aside0.mk hc1_0; clear hr1_0 hc1_0; have HR1_1 := Aside0.mk hr1_1; have HC1_1 := Aside0.mk hc1_1; clear hr1_1 hc1_1; have HR1_2 := Aside0.mk hr1_2; have HC1_2 := Aside0.mk hc1_2; clear hr1_2 hc1_2; have HB := Aside0.mk (Below.refl w.heap.size w); have H : ((laws_sameInts.f k l0_0 l1_0).bind fun t311 => (if t311 = true then ((laws_sameInts.f k l0_1 l1_1).bind fun t312 => (if t312 = true then ((laws_sameInts.f k l0_2 l1_2).bind fun t313 => (some t313)) else (some false))) else (some false))) = some r := h; clear h; have HC3 := Aside0.mk H; clear H; go_enter Try.func27, Try.ntmps27; go_upto_region 1 with (first | ((with_reducible refine gate_dst (N := 2) rfl ?_); refine bx_ (N := 2) (cs := #[.slice A0_0 l0_0.length c0_0, .slice A0_1 l0_1.length c0_1, .slice A0_2 l0_2.length c0_2]) (t := 39) ?_; intro gb309 hg w4 hbox hb; have BK309 := Aside0.mk (hbox); have GW309 := gw_ hg hb_; have GE309 := gw_ hg hb_; replace HB := Aside0.mk (below_step hb_ hb); clear hb hbox hg) | ((with_reducible refine gate_dst (N := 3) rfl ?_); refine bx_ (N := 3) (cs := #[.slice A1_0 l1_0.length c1_0, .slice A1_1 l1_1.length c1_1, .slice A1_2 l1_2.length c1_2]) (t := 39) ?_; intro gb310 hg w5 hbox hb; have BK310 := Aside0.mk (hbox); have GW310 := gw_ hg hb_; have GE310 := gw_ hg hb_; replace HB := Aside0.mk (below_step hb_ hb); obtain ⟨NB309_310, NB310_309, BK309⟩ := nb_ hg hb BK309; clear hb hbox hg))
 (try simp only [Act.put, List.setIfInBounds_toArray, List.set_cons_zero, List.set_cons_succ]); have H := HC3.out; clear HC3; replace H := Option.bind_eq_some_iff.mp H; obtain ⟨t311, A60, H⟩ := H; try dsimp only at H
 have A6 := Aside0.mk A60; clear A60; by_cases c7 : t311 = true
 ·subst c7
  rw [if_pos rfl] at H; replace H := Option.bind_eq_some_iff.mp H; obtain ⟨t312, A80, H⟩ := H; try dsimp only at H
  have A8 := Aside0.mk A80; clear A80; by_cases c9 : t312 = true
  ·subst c9
   rw [if_pos rfl] at H; replace H := Option.bind_eq_some_iff.mp H; obtain ⟨t313, A100, H⟩ := H; try dsimp only at H
   have A10 := Aside0.mk A100; clear A100; obtain rfl := Option.some.inj H; have hnb11 := NB309_310.out; have hnc11 := NB310_309.out; have hz12 := bc3_ BK309.out; have hz13 := bc3_ BK310.out; go_wp2_with (first | ((with_reducible refine gate_callee (f := 85) rfl ?_); refine gA_ (some 9) Try.func85 (laws_sameInts.calls _ _ _ _ _ _ _ _ _ ?side1 ?side2 ?side3 ?side4 A6.out) ?_; (case side1 => repeat (first | exact (Kd.C_below HR0_0.out HB.out) | (with_reducible refine Kd.C_alloc ?_ _) | (with_reducible refine Kd.C_drewN ?_ _) | (with_reducible refine Kd.C_drew ?_))); (case side2 => exact HC0_0.out); (case side3 => repeat (first | exact (Kd.C_below HR1_0.out HB.out) | (with_reducible refine Kd.C_alloc ?_ _) | (with_reducible refine Kd.C_drewN ?_ _) | (with_reducible refine Kd.C_drew ?_))); (case side4 => exact HC1_0.out); rintro e w' ⟨rfl, ⟨nd, rfl⟩⟩; refine ⟨_, rfl, ?_⟩) | (go_at_call 85; (with_reducible refine (laws_sameInts.calls k _ _ l0_1 _ _ l1_1 true _ ?side1 ?side2 ?side3 ?side4 A8.out).mono ?_); (case side1 => repeat (first | exact (Kd.C_below HR0_1.out hb_) | (with_reducible refine Kd.C_alloc ?_ _) | (with_reducible refine Kd.C_drewN ?_ _) | (with_reducible refine Kd.C_drew ?_))); (case side2 => exact HC0_1.out); (case side3 => repeat (first | exact (Kd.C_below HR1_1.out hb_) | (with_reducible refine Kd.C_alloc ?_ _) | (with_reducible refine Kd.C_drewN ?_ _) | (with_reducible refine Kd.C_drew ?_))); (case side4 => exact HC1_1.out); rintro e w' ⟨rfl, ⟨nd, rfl⟩⟩) | (go_at_call 85; (with_reducible refine (laws_sameInts.calls k _ _ l0_2 _ _ l1_2 t313 _ ?side1 ?side2 ?side3 ?side4 A10.out).mono ?_); (case side1 => repeat (first | exact (Kd.C_below HR0_2.out hb_) | (with_reducible refine Kd.C_alloc ?_ _) | (with_reducible refine Kd.C_drewN ?_ _) | (with_reducible refine Kd.C_drew ?_))); (case side2 => exact HC0_2.out); (case side3 => repeat (first | exact (Kd.C_below HR1_2.out hb_) | (with_reducible refine Kd.C_alloc ?_ _) | (with_reducible refine Kd.C_drewN ?_ _) | (with_reducible refine Kd.C_drew ?_))); (case side4 => exact HC1_2.out); rintro e w' ⟨rfl, ⟨nd, rfl⟩⟩)); go_ret; exact ⟨Bc_4, hb_⟩
  ·replace c9 := Bool.eq_false_iff.mpr c9
   subst c9; rw [if_neg (show ¬ (false = true) by decide)] at H; obtain rfl := Option.some.inj H; have hnb14 := NB309_310.out; have hnc14 := NB310_309.out; have hz15 := bc3_ BK309.out; have hz16 := bc3_ BK310.out; go_wp2_with (first | ((with_reducible refine gate_callee (f := 85) rfl ?_); refine gA_ (some 9) Try.func85 (laws_sameInts.calls _ _ _ _ _ _ _ _ _ ?side1 ?side2 ?side3 ?side4 A6.out) ?_; (case side1 => repeat (first | exact (Kd.C_below HR0_0.out HB.out) | (with_reducible refine Kd.C_alloc ?_ _) | (with_reducible refine Kd.C_drewN ?_ _) | (with_reducible refine Kd.C_drew ?_))); (case side2 => exact HC0_0.out); (case side3 => repeat (first | exact (Kd.C_below HR1_0.out HB.out) | (with_reducible refine Kd.C_alloc ?_ _) | (with_reducible refine Kd.C_drewN ?_ _) | (with_reducible refine Kd.C_drew ?_))); (case side4 => exact HC1_0.out); rintro e w' ⟨rfl, ⟨nd, rfl⟩⟩; refine ⟨_, rfl, ?_⟩) | (go_at_call 85; (with_reducible refine (laws_sameInts.calls k _ _ l0_1 _ _ l1_1 false _ ?side1 ?side2 ?side3 ?side4 A8.out).mono ?_); (case side1 => repeat (first | exact (Kd.C_below HR0_1.out hb_) | (with_reducible refine Kd.C_alloc ?_ _) | (with_reducible refine Kd.C_drewN ?_ _) | (with_reducible refine Kd.C_drew ?_))); (case side2 => exact HC0_1.out); (case side3 => repeat (first | exact (Kd.C_below HR1_1.out hb_) | (with_reducible refine Kd.C_alloc ?_ _) | (with_reducible refine Kd.C_drewN ?_ _) | (with_reducible refine Kd.C_drew ?_))); (case side4 => exact HC1_1.out); rintro e w' ⟨rfl, ⟨nd, rfl⟩⟩)); go_ret; exact ⟨Bc_4, hb_⟩
 ·replace c7 := Bool.eq_false_iff.mpr c7
  subst c7; rw [if_neg (show ¬ (false = true) by decide)] at H; obtain rfl := Option.some.inj H; have hnb17 := NB309_310.out; have hnc17 := NB310_309.out; have hz18 := bc3_ BK309.out; have hz19 := bc3_ BK310.out; go_wp2_with (first | ((with_reducible refine gate_callee (f := 85) rfl ?_); refine gA_ (some 9) Try.func85 (laws_sameInts.calls _ _ _ _ _ _ _ _ _ ?side1 ?side2 ?side3 ?side4 A6.out) ?_; (case side1 => repeat (first | exact (Kd.C_below HR0_0.out HB.out) | (with_reducible refine Kd.C_alloc ?_ _) | (with_reducible refine Kd.C_drewN ?_ _) | (with_reducible refine Kd.C_drew ?_))); (case side2 => exact HC0_0.out); (case side3 => repeat (first | exact (Kd.C_below HR1_0.out HB.out) | (with_reducible refine Kd.C_alloc ?_ _) | (with_reducible refine Kd.C_drewN ?_ _) | (with_reducible refine Kd.C_drew ?_))); (case side4 => exact HC1_0.out); rintro e w' ⟨rfl, ⟨nd, rfl⟩⟩; refine ⟨_, rfl, ?_⟩)); go_ret; exact ⟨Bc_4, hb_⟩
end Go.Proofs.Ytjmhhgnknjfnlaa.PFnLayouts
namespace Go.Proofs.Ytjmhhgnknjfnlaa.PFnLayouts
open Go.RowKit Go.Proofs.YtjmhhgnknjfnlaaW.PrintWords Go.Proofs.YtjmhhgnknjfnlaaW.PrintLast Go.Proofs.YtjmhhgnknjfnlaaW.PrintMore
attribute [local go_sem] max2_int min2_int max_two min_two max_three min_three max_four min_four
set_option linter.unusedVariables false
set_option linter.unusedSimpArgs false
def impl_TilesOf.f (k : Nat) (a0_0 : Int) (a0_1 : Int) (l0_2 : List Int) (l0_3 : List Int) : Option (Int) := (impl_SeqOk.f k a0_0 a0_1 l0_2 l0_3).bind fun t315 => (if t315 = true then (some (wrap64 ((l0_2.length : Int) * (l0_3.length : Int)))) else (some 0))
theorem impl_TilesOf.mono : ∀ a0 a1 a2 a3 k, LeO (impl_TilesOf.f k a0 a1 a2 a3) (impl_TilesOf.f (k + 1) a0 a1 a2 a3) := by
 intro a0 a1 a2 a3 k; unfold impl_TilesOf.f
 repeat' first
   | (with_reducible exact impl_SeqOk.mono _ _ _ _ _)
   | (with_reducible exact LeO.refl _)
   | (with_reducible exact LeO.none _)
   | (with_reducible refine LeO.ite ?_ ?_)
   | (with_reducible refine LeO.bind ?_ (fun _ => ?_))
   | exact impl_SeqOk.mono _ _ _ _ _
   | exact LeO.none _
   | refine LeO.ite ?_ ?_
   | refine LeO.bind ?_ (fun _ => ?_)
set_option maxHeartbeats 8000000 in
set_option maxRecDepth 100000 in
theorem impl_TilesOf.calls (k : Nat) (a0_0 : Int) (a0_1 : Int) (A0_2 : Option Addr) (c0_2 : Nat) (l0_2 : List Int) (A0_3 : Option Addr) (c0_3 : Nat) (l0_3 : List Int) (r : Int) (w : World) (hr0_2 : Kd.C (Kd.int .i64) w A0_2 l0_2.length l0_2) (hc0_2 : l0_2.length ≤ c0_2) (hr0_3 : Kd.C (Kd.int .i64) w A0_3 l0_3.length l0_3) (hc0_3 : l0_3.length ≤ c0_3) (h : impl_TilesOf.f k a0_0 a0_1 l0_2 l0_3 = some r) :
  Calls Try.prog 29 #[.agg #[.int .i64 a0_0, .int .i64 a0_1, .slice A0_2 l0_2.length c0_2, .slice A0_3 l0_3.length c0_3]] w fun e w' => e = .returned (.int .i64 r) ∧ Below w.heap.size w w' := by
 have hu46 := Try.underlying46; have HR0_2 := Aside0.mk hr0_2; have HC0_2 := Aside0.mk hc0_2; clear hr0_2 hc0_2; have HR0_3 := Aside0.mk hr0_3; have HC0_3 := Aside0.mk hc0_3; clear hr0_3 hc0_3; have HB := Aside0.mk (Below.refl w.heap.size w); have H : ((impl_SeqOk.f k a0_0 a0_1 l0_2 l0_3).bind fun t315 => (if t315 = true then (some (wrap64 ((l0_2.length : Int) * (l0_3.length : Int)))) else (some 0))) = some r := h; clear h; replace H := Option.bind_eq_some_iff.mp H; obtain ⟨t315, A20, H⟩ := H; try dsimp only at H
 have A2 := Aside0.mk A20; clear A20; have HC3 := Aside0.mk H; clear H; go_enter Try.func29, Try.ntmps29; go_upto_if 5 with (first | ((with_reducible refine gate_dst (N := 1) rfl ?_); refine bx_ (N := 1) (cs := #[.int .i64 a0_0, .int .i64 a0_1, .slice A0_2 l0_2.length c0_2, .slice A0_3 l0_3.length c0_3]) (t := 46) ?_; intro gb314 hg w4 hbox hb; have BK314 := Aside0.mk (hbox); have GW314 := gw_ hg hb_; have GE314 := gw_ hg hb_; replace HB := Aside0.mk (below_step hb_ hb); clear hb hbox hg; have hz5 := bc4_ BK314.out) | ((with_reducible refine gate_callee (f := 28) rfl ?_); refine gA_ (some 4) Try.func28 (impl_SeqOk.calls _ _ _ _ _ _ _ _ _ _ _ ?side1 ?side2 ?side3 ?side4 A2.out) ?_; (case side1 => repeat (first | exact (Kd.C_below HR0_2.out HB.out) | (with_reducible refine Kd.C_alloc ?_ _) | (with_reducible refine Kd.C_drewN ?_ _) | (with_reducible refine Kd.C_drew ?_))); (case side2 => exact HC0_2.out); (case side3 => repeat (first | exact (Kd.C_below HR0_3.out HB.out) | (with_reducible refine Kd.C_alloc ?_ _) | (with_reducible refine Kd.C_drewN ?_ _) | (with_reducible refine Kd.C_drew ?_))); (case side4 => exact HC0_3.out); rintro e w6 ⟨rfl, hb⟩; refine ⟨_, rfl, ?_⟩; replace BK314 := bb_ BK314 hb; replace HB := Aside0.mk (below_step hb_ hb); (try clear hb); (try clear hb2); (try clear hk); (try clear hi)))
 (try simp only [Act.put, List.setIfInBounds_toArray, List.set_cons_zero, List.set_cons_succ]); have H := HC3.out; clear HC3; by_cases c7 : t315 = true
 ·subst c7
  rw [if_pos rfl] at H; obtain rfl := Option.some.inj H; have hz8 := bc4_ BK314.out; go_wp2; go_ret; exact ⟨Bc_4, hb_⟩
 ·replace c7 := Bool.eq_false_iff.mpr c7
  subst c7; rw [if_neg (show ¬ (false = true) by decide)] at H; obtain rfl := Option.some.inj H; go_wp2; go_ret; exact ⟨Bc_4, hb_⟩
end Go.Proofs.Ytjmhhgnknjfnlaa.PFnLayouts
