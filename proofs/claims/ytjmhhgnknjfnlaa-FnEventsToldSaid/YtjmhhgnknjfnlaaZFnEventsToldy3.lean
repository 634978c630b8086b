-- functions and their walks: written by a program of this claim's
import Derived.Test.YtjmhhgnknjfnlaaProg
import Derived.Test.YtjmhhgnknjfnlaaVFnEventsTold
import Derived.Test.YtjmhhgnknjfnlaaZFnEventsToldy0
import Derived.Test.YtjmhhgnknjfnlaaZFnEventsToldy1
import Derived.Test.YtjmhhgnknjfnlaaZFnEventsToldy2
namespace Go.Proofs.Ytjmhhgnknjfnlaa.PFnEventsTold
open Go.RowKit Go.Proofs.YtjmhhgnknjfnlaaW.PrintWords Go.Proofs.YtjmhhgnknjfnlaaW.PrintLast Go.Proofs.YtjmhhgnknjfnlaaW.PrintMore
attribute [local go_sem] max2_int min2_int max_two min_two max_three min_three max_four min_four
set_option linter.unusedVariables false
set_option linter.unusedSimpArgs false
theorem Bd_0 {P : Prop} (h : P := by (with_reducible repeat (first | refine blk_drewN ?_ _ | refine blk_drew ?_ | refine blk_alloc ?_ _)); refine blk_put (cs := #[.int .i64 t272, .int .i64 t273, .int .i64 t274, .int .i64 0]) ?_ 3 _ rfl; (with_reducible repeat (first | refine blk_drewN ?_ _ | refine blk_drew ?_ | refine blk_alloc ?_ _)); refine blk_put (cs := #[.int .i64 t272, .int .i64 t273, .int .i64 0, .int .i64 0]) ?_ 2 _ rfl; (with_reducible repeat (first | refine blk_drewN ?_ _ | refine blk_drew ?_ | refine blk_alloc ?_ _)); refine blk_put (cs := #[.int .i64 t272, .int .i64 0, .int .i64 0, .int .i64 0]) ?_ 1 _ rfl; (with_reducible repeat (first | refine blk_drewN ?_ _ | refine blk_drew ?_ | refine blk_alloc ?_ _)); refine blk_put (cs := #[.int .i64 0, .int .i64 0, .int .i64 0, .int .i64 0]) ?_ 0 _ rfl; (with_reducible repeat (first | refine blk_drewN ?_ _ | refine blk_drew ?_ | refine blk_alloc ?_ _)); exact BK277.out) : P := h
theorem Bd_1 {P : Prop} (h : P := by (with_reducible repeat (first | apply Kd.R_alloc | apply Kd.R_drewN | apply Kd.R_drew)); exact (Kd.R_mono (Kd.R_far (p := ⟨gb277, 3, none⟩) (Kd.R_far (p := ⟨gb277, 2, none⟩) (Kd.R_far (p := ⟨gb277, 1, none⟩) (Kd.R_far (p := ⟨gb277, 0, none⟩) (Kd.R_mono HO_5.out (fun k_ hk => (⟨hk, hk.2⟩ : _ ∧ k_ ≠ gb277))) (fun _ hk => hk.2) (.int .i64 t272)) (fun _ hk => hk.2) (.int .i64 t273)) (fun _ hk => hk.2) (.int .i64 t274)) (fun _ hk => hk.2) (.int .i64 t275)) (fun _ h_ => h_.1))) : P := h
theorem Bd_2 {P : Prop} (h : P := by (with_reducible repeat (first | apply Kd.R_alloc | apply Kd.R_drewN | apply Kd.R_drew)); exact HO_5.out) : P := h
theorem Bd_3 {P : Prop} (h : P := by first | rfl | (simp; done) | (simp [*]; done)) : P := h
theorem Bd_4 {P : Prop} (h : P := by first | (with_reducible assumption) | assumption) : P := h
theorem Bd_5 {P : Prop} (h : P := by first | rfl | (simp [errW_none, errW_some] <;> rfl) | (simp [*, errW_none, errW_some] <;> rfl)) : P := h
theorem Bd_6 {P : Prop} (h : P := by (with_reducible repeat (first | refine blk_drewN ?_ _ | refine blk_drew ?_ | refine blk_alloc ?_ _)); exact BK232.out) : P := h
theorem Bd_7 {P : Prop} (h : P := by (with_reducible repeat (first | apply Kd.R_alloc | apply Kd.R_drewN | apply Kd.R_drew)); exact HO_20.out) : P := h
theorem Bd_8 {P : Prop} (h : P := by (with_reducible repeat (first | apply Kd.R_alloc | apply Kd.R_drewN | apply Kd.R_drew)); exact HO_4.out) : P := h
theorem Bd_9 {P : Prop} (h : P := by (with_reducible repeat (first | apply Kd.R_alloc | apply Kd.R_drewN | apply Kd.R_drew)); exact HO_6.out) : P := h
theorem Bd_10 {P : Prop} (h : P := by (with_reducible repeat (first | refine blk_drewN ?_ _ | refine blk_drew ?_ | refine blk_alloc ?_ _)); refine blk_far ?_ NB232_240.out _; (with_reducible repeat (first | refine blk_drewN ?_ _ | refine blk_drew ?_ | refine blk_alloc ?_ _)); exact BK232.out) : P := h
theorem Bd_11 {P : Prop} (h : P := by (with_reducible repeat (first | apply Kd.R_alloc | apply Kd.R_drewN | apply Kd.R_drew)); exact (Kd.R_mono (Kd.R_far (p := ⟨gb277, 3, none⟩) (Kd.R_far (p := ⟨gb277, 2, none⟩) (Kd.R_far (p := ⟨gb277, 1, none⟩) (Kd.R_far (p := ⟨gb277, 0, none⟩) (Kd.R_types HO_20.out BK277.out (by decide)) (fun _ hk => hk.2) (.int .i64 t272)) (fun _ hk => hk.2) (.int .i64 t273)) (fun _ hk => hk.2) (.int .i64 t274)) (fun _ hk => hk.2) (.int .i64 t275)) (fun _ h_ => h_.1))) : P := h
theorem Bd_12 {P : Prop} (h : P := by (with_reducible repeat (first | apply Kd.R_alloc | apply Kd.R_drewN | apply Kd.R_drew)); exact (Kd.R_mono (Kd.R_far (p := ⟨gb277, 3, none⟩) (Kd.R_far (p := ⟨gb277, 2, none⟩) (Kd.R_far (p := ⟨gb277, 1, none⟩) (Kd.R_far (p := ⟨gb277, 0, none⟩) (Kd.R_types HO_6.out BK277.out (by decide)) (fun _ hk => hk.2) (.int .i64 t272)) (fun _ hk => hk.2) (.int .i64 t273)) (fun _ hk => hk.2) (.int .i64 t274)) (fun _ hk => hk.2) (.int .i64 t275)) (fun _ h_ => h_.1))) : P := h
theorem Bd_13 {P : Prop} (h : P := by (with_reducible repeat (first | apply Kd.R_alloc | apply Kd.R_drewN | apply Kd.R_drew)); exact Kd.R_mono HO_20.out (fun _ hk => trivial)) : P := h
theorem Bd_14 {P : Prop} (h : P := by (with_reducible repeat (first | apply Kd.R_alloc | apply Kd.R_drewN | apply Kd.R_drew)); exact Kd.R_mono HO_6.out (fun _ hk => trivial)) : P := h
theorem Bd_15 {P : Prop} (h : P := by repeat (first | exact Drawn0.refl _ | apply Drawn0.step)) : P := h
theorem Bd_16 {P : Prop} (h : P := by (with_reducible repeat (first | apply Kd.R_alloc | apply Kd.R_drewN | apply Kd.R_drew)); exact HO259.out) : P := h
theorem Bd_17 {P : Prop} (h : P := by repeat (first | (with_reducible exact HR244.out) | (with_reducible refine Kd.C_alloc ?_ _) | (with_reducible refine Kd.C_drewN ?_ _) | (with_reducible refine Kd.C_drew ?_) | exact HR244.out)) : P := h
theorem Bd_18 {P : Prop} (h : P := by have := HJ2.out; have := HK2.out; have := HJ11.out; have := HK4.out; omega) : P := h
theorem Bd_19 {P : Prop} (h : P := by first | rfl | (simp; done) | (simp [*]; done) | (simp [wrap64]; done)) : P := h
theorem Bd_20 {P : Prop} (h : P := by (with_reducible repeat (first | apply Kd.R_alloc | apply Kd.R_drewN | apply Kd.R_drew)); exact HO236.out) : P := h
theorem Bd_21 {P : Prop} (h : P := by (with_reducible repeat (first | apply Kd.R_alloc | apply Kd.R_drewN | apply Kd.R_drew)); exact HO262.out) : P := h
theorem Bd_22 {P : Prop} (h : P := by have := HK1.out; first | omega | exact Nat.le_refl _) : P := h
mutual
def impl_ReadEvent.j0 : Nat → List ByteArray → Bool → Option (Int × Int × Int × Int × Bool)
 | 0, _, _ => none
 | k + 1, x4, x25 => if x25 = true then (some (0, 0, 0, 0, false)) else (impl_ReadEvent.l0 k x4 1)
def impl_ReadEvent.l0 : Nat → List ByteArray → Int → Option (Int × Int × Int × Int × Bool)
 | 0, _, _ => none
 | k + 1, x4, x6 => if x6 ≤ 9 then ((impl_wordOf.f x6).bind fun bt237 => (if 0 < (x4.length : Int) then (if bt237.1.toList = (rdOf ByteArray.empty x4 0).toList then (impl_ReadEvent.j2 k x4 x6 (bt237.2 != (wrap64 ((x4.length : Int) - 1)))) else (impl_ReadEvent.j2 k x4 x6 true)) else (none))) else (some (0, 0, 0, 0, false))
def impl_ReadEvent.j2 : Nat → List ByteArray → Int → Bool → Option (Int × Int × Int × Int × Bool)
 | 0, _, _, _ => none
 | k + 1, x4, x6, x47 => if x47 = true then (impl_ReadEvent.l0 k x4 (wrap64 (x6 + 1))) else (if 1 ≤ (x4.length : Int) then ((some (x4.drop 1 : List ByteArray)).bind fun y241 => (impl_ReadEvent.l1 k x4 x6 y241 (y241.length : Int) 0 0 0 0)) else (none))
def impl_ReadEvent.l1 : Nat → List ByteArray → Int → List ByteArray → Int → Int → Int → Int → Int → Option (Int × Int × Int × Int × Bool)
 | 0, _, _, _, _, _, _, _, _ => none
 | k + 1, x4, x6, x49, x50, x51, x241000, x241001, x241002 => if x51 < x50 then (if 0 ≤ x51 then (if x51 < (x49.length : Int) then ((impl_ReadDecimal.f k (rdOf ByteArray.empty x49 x51)).bind fun bt246 => (if bt246.2 = true then (if x51 = 0 then (impl_ReadEvent.l1 k x4 x6 x49 x50 (wrap64 (x51 + 1)) bt246.1 x241001 x241002) else (if x51 = 1 then (impl_ReadEvent.l1 k x4 x6 x49 x50 (wrap64 (x51 + 1)) x241000 bt246.1 x241002) else (if x51 = 2 then (impl_ReadEvent.l1 k x4 x6 x49 x50 (wrap64 (x51 + 1)) x241000 x241001 bt246.1) else (none)))) else (some (0, 0, 0, 0, false)))) else (none)) else (none)) else (some (x6, x241000, x241001, x241002, true))
end
def impl_ReadEvent.f (k : Nat) (a0 : ByteArray) : Option (Int × Int × Int × Int × Bool) := (impl_PartsOf.f k a0).bind fun bt233 => (if bt233.2 = true then (impl_ReadEvent.j0 k bt233.1 ((bt233.1.length : Int) == 0)) else (impl_ReadEvent.j0 k bt233.1 true))
theorem impl_ReadEvent.mono_l : ∀ k, (∀ y0 y1, LeO (impl_ReadEvent.j0 k y0 y1) (impl_ReadEvent.j0 (k + 1) y0 y1)) ∧ (∀ y0 y1, LeO (impl_ReadEvent.l0 k y0 y1) (impl_ReadEvent.l0 (k + 1) y0 y1)) ∧ (∀ y0 y1 y2, LeO (impl_ReadEvent.j2 k y0 y1 y2) (impl_ReadEvent.j2 (k + 1) y0 y1 y2)) ∧ (∀ y0 y1 y2 y3 y4 y5 y6 y7, LeO (impl_ReadEvent.l1 k y0 y1 y2 y3 y4 y5 y6 y7) (impl_ReadEvent.l1 (k + 1) y0 y1 y2 y3 y4 y5 y6 y7))
 | 0 => ⟨fun _ _ r h => by simp [impl_ReadEvent.j0] at h, fun _ _ r h => by simp [impl_ReadEvent.l0] at h, fun _ _ _ r h => by simp [impl_ReadEvent.j2] at h, fun _ _ _ _ _ _ _ _ r h => by simp [impl_ReadEvent.l1] at h⟩
 | k + 1 => by
  obtain ⟨ih0, ih1, ih2, ih3⟩ := impl_ReadEvent.mono_l k; refine ⟨?_, ?_, ?_, ?_⟩
  ·intro y0 y1
   unfold impl_ReadEvent.j0
   repeat' first
   | (with_reducible exact ih0 _ _)
   | (with_reducible exact ih1 _ _)
   | (with_reducible exact ih2 _ _ _)
   | (with_reducible exact ih3 _ _ _ _ _ _ _ _)
   | (with_reducible exact impl_PartsOf.mono _ _)
   | (with_reducible exact impl_ReadDecimal.mono _ _)
   | (with_reducible exact LeO.refl _)
   | (with_reducible exact LeO.none _)
   | (with_reducible refine LeO.ite ?_ ?_)
   | (with_reducible refine LeO.bind ?_ (fun _ => ?_))
   | exact ih0 _ _
   | exact ih1 _ _
   | exact ih2 _ _ _
   | exact ih3 _ _ _ _ _ _ _ _
   | exact impl_PartsOf.mono _ _
   | exact impl_ReadDecimal.mono _ _
   | exact LeO.none _
   | refine LeO.ite ?_ ?_
   | refine LeO.bind ?_ (fun _ => ?_)
  ·intro y0 y1
   unfold impl_ReadEvent.l0
   repeat' first
   | (with_reducible exact ih0 _ _)
   | (with_reducible exact ih1 _ _)
   | (with_reducible exact ih2 _ _ _)
   | (with_reducible exact ih3 _ _ _ _ _ _ _ _)
   | (with_reducible exact impl_PartsOf.mono _ _)
   | (with_reducible exact impl_ReadDecimal.mono _ _)
   | (with_reducible exact LeO.refl _)
   | (with_reducible exact LeO.none _)
   | (with_reducible refine LeO.ite ?_ ?_)
   | (with_reducible refine LeO.bind ?_ (fun _ => ?_))
   | exact ih0 _ _
   | exact ih1 _ _
   | exact ih2 _ _ _
   | exact ih3 _ _ _ _ _ _ _ _
   | exact impl_PartsOf.mono _ _
   | exact impl_ReadDecimal.mono _ _
   | exact LeO.none _
   | refine LeO.ite ?_ ?_
   | refine LeO.bind ?_ (fun _ => ?_)
  ·intro y0 y1 y2
   unfold impl_ReadEvent.j2
   repeat' first
   | (with_reducible exact ih0 _ _)
   | (with_reducible exact ih1 _ _)
   | (with_reducible exact ih2 _ _ _)
   | (with_reducible exact ih3 _ _ _ _ _ _ _ _)
   | (with_reducible exact impl_PartsOf.mono _ _)
   | (with_reducible exact impl_ReadDecimal.mono _ _)
   | (with_reducible exact LeO.refl _)
   | (with_reducible exact LeO.none _)
   | (with_reducible refine LeO.ite ?_ ?_)
   | (with_reducible refine LeO.bind ?_ (fun _ => ?_))
   | exact ih0 _ _
   | exact ih1 _ _
   | exact ih2 _ _ _
   | exact ih3 _ _ _ _ _ _ _ _
   | exact impl_PartsOf.mono _ _
   | exact impl_ReadDecimal.mono _ _
   | exact LeO.none _
   | refine LeO.ite ?_ ?_
   | refine LeO.bind ?_ (fun _ => ?_)
  ·intro y0 y1 y2 y3 y4 y5 y6 y7
   unfold impl_ReadEvent.l1
   repeat' first
   | (with_reducible exact ih0 _ _)
   | (with_reducible exact ih1 _ _)
   | (with_reducible exact ih2 _ _ _)
   | (with_reducible exact ih3 _ _ _ _ _ _ _ _)
   | (with_reducible exact impl_PartsOf.mono _ _)
   | (with_reducible exact impl_ReadDecimal.mono _ _)
   | (with_reducible exact LeO.refl _)
   | (with_reducible exact LeO.none _)
   | (with_reducible refine LeO.ite ?_ ?_)
   | (with_reducible refine LeO.bind ?_ (fun _ => ?_))
   | exact ih0 _ _
   | exact ih1 _ _
   | exact ih2 _ _ _
   | exact ih3 _ _ _ _ _ _ _ _
   | exact impl_PartsOf.mono _ _
   | exact impl_ReadDecimal.mono _ _
   | exact LeO.none _
   | refine LeO.ite ?_ ?_
   | refine LeO.bind ?_ (fun _ => ?_)
theorem impl_ReadEvent.mono : ∀ a0 k, LeO (impl_ReadEvent.f k a0) (impl_ReadEvent.f (k + 1) a0) := by
 intro a0 k; obtain ⟨ih0, ih1, ih2, ih3⟩ := impl_ReadEvent.mono_l k; unfold impl_ReadEvent.f
 repeat' first
   | (with_reducible exact ih0 _ _)
   | (with_reducible exact ih1 _ _)
   | (with_reducible exact ih2 _ _ _)
   | (with_reducible exact ih3 _ _ _ _ _ _ _ _)
   | (with_reducible exact impl_PartsOf.mono _ _)
   | (with_reducible exact impl_ReadDecimal.mono _ _)
   | (with_reducible exact LeO.refl _)
   | (with_reducible exact LeO.none _)
   | (with_reducible refine LeO.ite ?_ ?_)
   | (with_reducible refine LeO.bind ?_ (fun _ => ?_))
   | exact ih0 _ _
   | exact ih1 _ _
   | exact ih2 _ _ _
   | exact ih3 _ _ _ _ _ _ _ _
   | exact impl_PartsOf.mono _ _
   | exact impl_ReadDecimal.mono _ _
   | exact LeO.none _
   | refine LeO.ite ?_ ?_
   | refine LeO.bind ?_ (fun _ => ?_)
set_option maxHeartbeats 8000000 in
set_option maxRecDepth 100000 in
theorem impl_ReadEvent.calls (k : Nat) (a0 : ByteArray) (r1 : Int) (r2 : Int) (r3 : Int) (r4 : Int) (r5 : Bool) (w : World) (h : impl_ReadEvent.f k a0 = some (r1, r2, r3, r4, r5)) :
  Calls Try.prog 17 #[.string a0] w fun e w' => e = .returned (.tuple #[.agg #[.int .i64 r1, .int .i64 r2, .int .i64 r3, .int .i64 r4], .bool r5]) ∧ Below w.heap.size w w' := by
 have hu29 := Try.underlying29; have hu124 := Try.underlying124; have HB := Aside0.mk (Below.refl w.heap.size w); have H : ((impl_PartsOf.f k a0).bind fun bt233 => (if bt233.2 = true then (impl_ReadEvent.j0 k bt233.1 ((bt233.1.length : Int) == 0)) else (impl_ReadEvent.j0 k bt233.1 true))) = some (r1, r2, r3, r4, r5) := h; clear h; replace H := Option.bind_eq_some_iff.mp H; obtain ⟨⟨t233, t234⟩, A20, H⟩ := H; try dsimp only at H
 have A2 := Aside0.mk A20; clear A20; have HC3 := Aside0.mk H; clear H; go_enter Try.func17, Try.ntmps17; go_upto_region 2 with (first | ((with_reducible refine gate_dst (N := 2) rfl ?_); (try (refine gate_guard (by rfl) ?_; dsimp only)); refine box_event ?hg (N := 2) ?hd (cs := #[.int .i64 0, .int .i64 0, .int .i64 0, .int .i64 0]) (t := 29) ?hr ?_; (case hd => rfl); (case hg => rfl); (case hr => first | (go_simp; done) | (go_simp; rfl)); intro gb232 hg w4 hbox hb; have BK232 := Aside0.mk (hbox); have GW232 := gw_ hg hb_; have GE232 := gw_ hg hb_; replace HB := Aside0.mk (below_step hb_ hb); clear hb hbox hg) | ((with_reducible refine gate_callee (f := 73) rfl ?_); refine gA_ (some 16) Try.func73 (impl_PartsOf.calls _ _ _ _ _ A2.out) ?_; rintro e w5 ⟨v235, rfl, ho0, hb⟩; refine ⟨_, rfl, ?_⟩; have HO236 := Aside0.mk (Kd.R_lower ho0 (below_size hb_)); replace BK232 := bb_ BK232 hb; replace HB := Aside0.mk (below_step hb_ hb); (try clear hb); (try clear hb2); (try clear hk); (try clear hi); (try clear ho0)))
 (try simp only [Act.put, List.setIfInBounds_toArray, List.set_cons_zero, List.set_cons_succ]); go_cut [25] (fun v25 wc => ∃ (kq : Nat) (x25_2 : Bool), v25 = .bool x25_2 ∧ Aside0 (impl_ReadEvent.j0 kq t233 x25_2 = some (r1, r2, r3, r4, r5)) ∧ Aside0 (kq ≤ k) ∧ Aside0 (Kd.R Kd.string 9 wc w.heap.size (fun _ => True) v235 t233) ∧ Aside0 (wc.heap[gb232]? = some (.cells #[.int .i64 0, .int .i64 0, .int .i64 0, .int .i64 0] 29 (0, 0))) ∧ Aside0 (Below w.heap.size w wc))
 case first =>
  have H := HC3.out; clear HC3; by_cases c6 : t234 = true
  ·subst c6
   rw [if_pos rfl] at H; have H' := Aside0.mk H; clear H; obtain ⟨Ao7, co7, eo7⟩ := Kd.R_slice HO236.out; subst eo7; go_wp2; go_meet
   case rel => exact ⟨_, (((t233.length : Int) == 0)), Bd_3, H', ⟨(by first | omega | exact Nat.le_refl _)⟩, ⟨Bd_20⟩, ⟨Bd_6⟩, ⟨hb_⟩⟩
  ·replace c6 := Bool.eq_false_iff.mpr c6
   subst c6; rw [if_neg (show ¬ (false = true) by decide)] at H; have H' := Aside0.mk H; clear H; go_wp2; go_meet
   case rel => exact ⟨_, (true), Bd_3, H', ⟨(by first | omega | exact Nat.le_refl _)⟩, ⟨Bd_20⟩, ⟨Bd_6⟩, ⟨hb_⟩⟩
 case rest =>
  clear HC3; try clear c1; try clear p2; try clear c6; try clear c7
  obtain ⟨kq, x25_2, rfl, HA, HJ2, HO_4, BK232, HB⟩ := hcut; cases kq with
  | zero => exact absurd HA.out (by simp [impl_ReadEvent.j0])
  | succ kj2 =>
   have H := HA.out; clear HA; simp only [impl_ReadEvent.j0] at H; by_cases c8 : x25_2 = true
   ·subst c8
    rw [if_pos rfl] at H; simp only [Option.some.injEq, Prod.mk.injEq] at H; obtain ⟨rfl, rfl, rfl, rfl, rfl⟩ := H; have hz9 := bc4_ BK232.out; go_wp2; refine bodyPost_ret (results_ct rfl _ _ gb232 29 #[.int .i64 0, .int .i64 0, .int .i64 0, .int .i64 0] (0, 0) _ rfl (by (with_reducible repeat (first | refine blk_drewN ?_ _ | refine blk_drew ?_ | refine blk_alloc ?_ _)); refine blk_put (cs := #[.int .i64 0, .int .i64 0, .int .i64 0, .int .i64 0]) ?_ 3 _ rfl; (with_reducible repeat (first | refine blk_drewN ?_ _ | refine blk_drew ?_ | refine blk_alloc ?_ _)); refine blk_put (cs := #[.int .i64 0, .int .i64 0, .int .i64 0, .int .i64 0]) ?_ 2 _ rfl; (with_reducible repeat (first | refine blk_drewN ?_ _ | refine blk_drew ?_ | refine blk_alloc ?_ _)); refine blk_put (cs := #[.int .i64 0, .int .i64 0, .int .i64 0, .int .i64 0]) ?_ 1 _ rfl; (with_reducible repeat (first | refine blk_drewN ?_ _ | refine blk_drew ?_ | refine blk_alloc ?_ _)); refine blk_put (cs := #[.int .i64 0, .int .i64 0, .int .i64 0, .int .i64 0]) ?_ 0 _ rfl; (with_reducible repeat (first | refine blk_drewN ?_ _ | refine blk_drew ?_ | refine blk_alloc ?_ _)); exact BK232.out) Try.underlying29 rfl (by kernel_rfl)) rfl ?_; exact ⟨Bd_5, hb_⟩
   ·replace c8 := Bool.eq_false_iff.mpr c8
    subst c8; rw [if_neg (show ¬ (false = true) by decide)] at H; have H' := Aside0.mk H; clear H; go_wp2; go_loopg [6] kj2 (fun kq v6 w' => ∃ (x6_2 : Int) (x233000_2 : Int) (x233001_2 : Int) (x233002_2 : Int) (x233003_2 : Int), v6 = .int .i64 x6_2 ∧ Aside0 (impl_ReadEvent.l0 kq t233 x6_2 = some (r1, r2, r3, r4, r5)) ∧ Aside0 (kq ≤ kj2) ∧ Aside0 (Kd.R Kd.string 9 w' w.heap.size (fun _ => True) v235 t233) ∧ Aside0 (w'.heap[gb232]? = some (.cells #[.int .i64 x233000_2, .int .i64 x233001_2, .int .i64 x233002_2, .int .i64 x233003_2] 29 (0, 0))) ∧ Aside0 (Below w.heap.size w w'))
    case atStart => exact ⟨(1), (0), (0), (0), (0), Bd_3, H', ⟨Nat.le_refl _⟩, ⟨Bd_8⟩, ⟨Bd_6⟩, ⟨hb_⟩⟩
    case round =>
     clear H'; try clear c1; try clear p2; try clear c6; try clear c7; try clear c8; try clear hz9
     obtain ⟨x6_2, x233000_2, x233001_2, x233002_2, x233003_2, rfl, HA, HK2, HO_4, BK232, HB⟩ := hrel; cases gk with
     | zero => exact absurd HA.out (by simp [impl_ReadEvent.l0])
     | succ k2 =>
      have H := HA.out; clear HA; simp only [impl_ReadEvent.l0] at H; by_cases c10 : x6_2 ≤ 9
      ·rw [if_pos c10] at H
       have c10b0 : decide (x6_2 ≤ 9) = true := decide_eq_true c10; clear c10; replace H := Option.bind_eq_some_iff.mp H; obtain ⟨⟨t237, t238⟩, A110, H⟩ := H; try dsimp only at H
       have A11 := Aside0.mk A110; clear A110; have HC12 := Aside0.mk H; clear H; go_upto_region 8 with (first | ((with_reducible refine gate_callee (f := 70) rfl ?_); refine gA_ (some 33) Try.func70 (impl_wordOf.calls _ _ _ _ A11.out) ?_; rintro e w' ⟨rfl, ⟨nd, rfl⟩⟩; refine ⟨_, rfl, ?_⟩))
       (try simp only [Act.put, List.setIfInBounds_toArray, List.set_cons_zero, List.set_cons_succ]); go_cut [47] (fun v47 wc => ∃ (kq : Nat) (x47_11 : Bool), v47 = .bool x47_11 ∧ Aside0 (impl_ReadEvent.j2 kq t233 x6_2 x47_11 = some (r1, r2, r3, r4, r5)) ∧ Aside0 (kq ≤ k2) ∧ Aside0 (Kd.R Kd.string 9 wc w.heap.size (fun _ => True) v235 t233) ∧ Aside0 (wc.heap[gb232]? = some (.cells #[.int .i64 x233000_2, .int .i64 x233001_2, .int .i64 x233002_2, .int .i64 x233003_2] 29 (0, 0))) ∧ Aside0 (Below w.heap.size w wc))
       case first =>
        have H := HC12.out; clear HC12; by_cases c13 : 0 < (t233.length : Int)
        ·rw [if_pos c13] at H
         have c13b0 : decide (0 < (t233.length : Int)) = true := decide_eq_true c13; have c13b1 : decide (0 < t233.length) = true := decide_eq_true (by omega); clear c13; (first | rw [c13b0] | (simp only [i64_w, i32_w]; rw [c13b0]) | skip); by_cases c14 : t237.toList = (rdOf ByteArray.empty t233 0).toList
         ·rw [if_pos c14] at H
          have c14b0 : (t237.toList == (rdOf ByteArray.empty t233 0).toList) = true := beq_iff_eq.mpr c14; have c14b1 : (t237.toList != (rdOf ByteArray.empty t233 0).toList) = false := bne_eq_false_iff_eq.mpr c14; clear c14; have H' := Aside0.mk H; clear H; obtain ⟨Ao15, co15, eo15⟩ := Kd.R_slice HO_4.out; subst eo15; have p239 : 0 ≤ (0 : Int) := (by omega); have q239 : 0 < (t233.length : Int) := of_decide_eq_true Bd_4; obtain ⟨ad239, e239, hx239_0⟩ := Kd.at_string (Kd.R_reads' HO_4.out).2.2 0 p239 q239; cases e239; have qi239 : (0 < t233.length) = True := eq_true (by omega); (try rw [show ((0 : Int)).toNat = 0 from rfl] at hx239_0); (try rw [Addr.add_zero'] at hx239_0); replace p239 := eq_true p239; replace q239 := eq_true q239; go_wp2; go_meet
          case rel => exact ⟨_, ((t238 != (wrap64 ((t233.length : Int) - 1)))), Bd_3, H', ⟨(by have := HJ2.out; have := HK2.out; first | omega | exact Nat.le_refl _)⟩, ⟨Bd_8⟩, ⟨Bd_6⟩, ⟨hb_⟩⟩
         ·rw [if_neg c14] at H
          have c14b0 : (t237.toList == (rdOf ByteArray.empty t233 0).toList) = false := beq_eq_false_iff_ne.mpr c14; have c14b1 : (t237.toList != (rdOf ByteArray.empty t233 0).toList) = true := bne_iff_ne.mpr c14; have H' := Aside0.mk H; clear H; obtain ⟨Ao16, co16, eo16⟩ := Kd.R_slice HO_4.out; subst eo16; have p239 : 0 ≤ (0 : Int) := (by omega); have q239 : 0 < (t233.length : Int) := of_decide_eq_true Bd_4; obtain ⟨ad239, e239, hx239_0⟩ := Kd.at_string (Kd.R_reads' HO_4.out).2.2 0 p239 q239; cases e239; have qi239 : (0 < t233.length) = True := eq_true (by omega); (try rw [show ((0 : Int)).toNat = 0 from rfl] at hx239_0); (try rw [Addr.add_zero'] at hx239_0); replace p239 := eq_true p239; replace q239 := eq_true q239; go_wp2; go_meet
          case rel => exact ⟨_, (true), Bd_3, H', ⟨(by have := HJ2.out; have := HK2.out; first | omega | exact Nat.le_refl _)⟩, ⟨Bd_8⟩, ⟨Bd_6⟩, ⟨hb_⟩⟩
        ·rw [if_neg c13] at H
         exact absurd H (by simp)
       case rest =>
        clear HC12; try clear c1; try clear p2; try clear q2; try clear hx2; try clear qi2; try clear c6; try clear p6; try clear c7; try clear c8; try clear c10; try clear c10b0; try clear c13; try clear c13b0; try clear c13b1; try clear c14; try clear c14b0; try clear c14b1; try clear hz9; try clear hx239_0; try clear p239; try clear q239
        obtain ⟨kq, x47_11, rfl, HA, HJ11, HO_4, BK232, HB⟩ := hcut; cases kq with
        | zero => exact absurd HA.out (by simp [impl_ReadEvent.j2])
        | succ kj11 =>
         have H := HA.out; clear HA; simp only [impl_ReadEvent.j2] at H; by_cases c17 : x47_11 = true
         ·subst c17
          rw [if_pos rfl] at H; have H' := Aside0.mk H; clear H; go_wp2; go_roundg kj11
          case measure => have := HJ2.out; have := HK2.out; have := HJ11.out; omega
          case rel => exact ⟨(wrap64 (x6_2 + 1)), (x233000_2), (x233001_2), (x233002_2), (x233003_2), Bd_3, H', ⟨(by have := HJ2.out; have := HK2.out; have := HJ11.out; omega)⟩, ⟨Bd_8⟩, ⟨Bd_6⟩, ⟨hb_⟩⟩
         ·replace c17 := Bool.eq_false_iff.mpr c17
          subst c17; rw [if_neg (show ¬ (false = true) by decide)] at H; by_cases c18 : 1 ≤ (t233.length : Int)
          ·rw [if_pos c18] at H
           have c18b0 := eq_true c18; have c18b1 : decide (1 ≤ (t233.length : Int)) = true := decide_eq_true c18; clear c18; obtain ⟨y241, hy241⟩ : ∃ y_ : List ByteArray, y_ = (t233.drop 1) := ⟨_, rfl⟩; replace H : (impl_ReadEvent.l1 kj11 t233 x6_2 y241 (y241.length : Int) 0 0 0 0) = some (r1, r2, r3, r4, r5) := by first | (rw [hy241]; with_reducible exact H) | (have H2_ := (Option.bind_some _ _).symm.trans H; rw [hy241]; with_reducible exact H2_) | (have H2_ := (Option.bind_some _ _).symm.trans H; with_reducible exact H2_) | with_reducible exact H | (rw [hy241]; exact H) | exact H
           have Ny241 := Aside0.mk hy241; clear hy241; have H' := Aside0.mk H; clear H; go_wp2_with (first | ((with_reducible refine gate_dst (N := 9) rfl ?_); (try (refine gate_guard (by rfl) ?_; dsimp only)); refine box_event ?hg (N := 9) ?hd (cs := #[.int .i64 0, .int .i64 0, .int .i64 0]) (t := 124) ?hr ?_; (case hd => rfl); (case hg => rfl); (case hr => first | (go_simp; done) | (go_simp; rfl)); intro gb240 hg w19 hbox hb; replace HO_4 := Aside0.mk (Kd.R_below Bd_8 hb); have BK240 := Aside0.mk (hbox); have GW240 := gw_ hg hb_; have GE240 := gw_ hg hb_; replace HB := Aside0.mk (below_step hb_ hb); obtain ⟨NB232_240, NB240_232, BK232⟩ := nb_ hg hb BK232; clear hb hbox hg; obtain ⟨Ao21, co21, eo21⟩ := Kd.R_slice HO_4.out; subst eo21; have q20 : (1 : Int) ≤ ((t233.length : Int) : Int) := of_decide_eq_true Bd_4; obtain ⟨i020, hi020, _, hsz20, _⟩ := info_parts info9; have hroom20 : t233.length ≤ co21 := (Kd.R_reads' HO_4.out).2.1; have hC20 : Kd.C Kd.string _ Ao21 t233.length t233 := (Kd.R_reads' HO_4.out).2.2; have hcut20 := cut_from (P := Try.prog) 121 9 .i64 Try.underlying121 hi020 1 hsz20 Ao21 t233.length co21 1 (by omega) q20; have hr20 := Kd.C_drop (m := (1 : Int).toNat) (c := co21) hC20 (by omega) hroom20; obtain ⟨A20, hA20⟩ : ∃ A1, A1 = (if co21 = (1 : Int).toNat then Ao21 else (Ao21 : Option Addr).map (·.add ((1 : Int).toNat * 1))) := ⟨_, rfl⟩; obtain ⟨c20, hc20⟩ : ∃ c1, c1 = co21 - (1 : Int).toNat := ⟨_, rfl⟩; have hy20 : y241.length = t233.length - (1 : Int).toNat := (by rw [Ny241.out, List.length_drop] <;> omega); rw [show (t233).drop (1 : Int).toNat = y241 from Ny241.out.symm] at hr20; replace hr20 : Kd.C Kd.string _ A20 y241.length y241 := (by rw [hA20]; exact hr20); rw [← hy20, ← hA20, ← hc20] at hcut20; have HR244 := Aside0.mk hr20; have HC244 := Aside0.mk (show y241.length ≤ c20 from by rw [hy20, hc20]; exact Nat.sub_le_sub_right hroom20 _); clear hr20 hC20 hroom20 hi020 hsz20 hc20; have KY20 := Aside0.mk hy20; have KA20 := Aside0.mk hA20; clear hy20 hA20; have KL20 := Aside0.mk (show 1 ≤ t233.length from by omega); replace q20 := eq_true q20)); go_loopg [51] kj11 (fun kq v51 w' => ∃ (x51_4 : Int) (x233000_4 : Int) (x233001_4 : Int) (x233002_4 : Int) (x233003_4 : Int) (x241000_4 : Int) (x241001_4 : Int) (x241002_4 : Int), v51 = .int .i64 x51_4 ∧ Aside0 (impl_ReadEvent.l1 kq t233 x6_2 y241 (y241.length : Int) x51_4 x241000_4 x241001_4 x241002_4 = some (r1, r2, r3, r4, r5)) ∧ Aside0 (kq ≤ kj11) ∧ Aside0 (Kd.R Kd.string 9 w' w.heap.size (fun _ => True) (.slice Ao21 t233.length co21) t233) ∧ Aside0 (w'.heap[gb232]? = some (.cells #[.int .i64 x233000_4, .int .i64 x233001_4, .int .i64 x233002_4, .int .i64 x233003_4] 29 (0, 0))) ∧ Aside0 (w'.heap[gb240]? = some (.cells #[.int .i64 x241000_4, .int .i64 x241001_4, .int .i64 x241002_4] 124 (0, 0))) ∧ Aside0 (Kd.C Kd.string w' A20 y241.length y241) ∧ Aside0 (Below w.heap.size w w'))
           case atStart => exact ⟨(0), (x233000_2), (x233001_2), (x233002_2), (x233003_2), (0), (0), (0), Bd_3, H', ⟨Nat.le_refl _⟩, ⟨Bd_8⟩, ⟨Bd_6⟩, ⟨(by (with_reducible repeat (first | refine blk_drewN ?_ _ | refine blk_drew ?_ | refine blk_alloc ?_ _)); exact BK240.out)⟩, ⟨Bd_17⟩, ⟨hb_⟩⟩
           case round =>
            clear H'; try clear c1; try clear c2; try clear p2; try clear q2; try clear hx2; try clear qi2; try clear c6; try clear p6; try clear c7; try clear c8; try clear c10; try clear c10b0; try clear c13; try clear c13b0; try clear c13b1; try clear c14; try clear c14b0; try clear c14b1; try clear c17; try clear c18; try clear c18b0; try clear c18b1; try clear c20; try clear q20; try clear hz9; try clear hx239_0; try clear p239; try clear q239
            obtain ⟨x51_4, x233000_4, x233001_4, x233002_4, x233003_4, x241000_4, x241001_4, x241002_4, rfl, HA, HK4, HO_4, BK232, BK240, HR244, HB⟩ := hrel; cases gk with
            | zero => exact absurd HA.out (by simp [impl_ReadEvent.l1])
            | succ k4 =>
             have H := HA.out; clear HA; simp only [impl_ReadEvent.l1] at H; by_cases c22 : x51_4 < (y241.length : Int)
             ·rw [if_pos c22] at H
              have c22b0 : decide (x51_4 < (y241.length : Int)) = true := decide_eq_true c22; clear c22; by_cases c23 : 0 ≤ x51_4
              ·rw [if_pos c23] at H
               have c23b0 : decide (0 ≤ x51_4) = true := decide_eq_true c23; clear c23; by_cases c24 : x51_4 < (y241.length : Int)
               ·rw [if_pos c24] at H
                have c24b0 : decide (x51_4 < (y241.length : Int)) = true := decide_eq_true c24; clear c24; replace H := Option.bind_eq_some_iff.mp H; obtain ⟨⟨t246, t247⟩, A250, H⟩ := H; try dsimp only at H
                have A25 := Aside0.mk A250; clear A250; have HC26 := Aside0.mk H; clear H; have p245 : 0 ≤ (x51_4 : Int) := of_decide_eq_true Bd_4; have q245 : x51_4 < (y241.length : Int) := of_decide_eq_true Bd_4; obtain ⟨ad245, e245, hx245_0⟩ := Kd.at_string HR244.out x51_4 p245 q245; cases e245; replace p245 := eq_true p245; replace q245 := eq_true q245; go_upto_if 62 with (first | ((with_reducible refine gate_callee (f := 74) rfl ?_); refine gA_ (some 58) Try.func74 (impl_ReadDecimal.calls _ _ _ _ _ A25.out) ?_; rintro e w27 ⟨rfl, hb⟩; refine ⟨_, rfl, ?_⟩; replace HO_4 := Aside0.mk (Kd.R_below Bd_8 hb); replace BK232 := bb_ BK232 hb; replace BK240 := bb_ BK240 hb; replace HR244 := Aside0.mk (Kd.C_below Bd_17 hb); replace HB := Aside0.mk (below_step hb_ hb); (try clear hb); (try clear hb2); (try clear hk); (try clear hi)))
                (try simp only [Act.put, List.setIfInBounds_toArray, List.set_cons_zero, List.set_cons_succ]); have H := HC26.out; clear HC26; by_cases c28 : t247 = true
                ·subst c28
                 rw [if_pos rfl] at H; by_cases c29 : x51_4 = 0
                 ·subst c29
                  rw [if_pos rfl] at H; have H' := Aside0.mk H; clear H; have hnb30 := NB240_232.out; have hnc30 := NB232_240.out; have hz31 := bc3_ BK240.out; go_wp2; go_roundg k4
                  case measure => have := HJ2.out; have := HK2.out; have := HJ11.out; have := HK4.out; omega
                  case rel => exact ⟨(wrap64 (0 + 1)), (x233000_4), (x233001_4), (x233002_4), (x233003_4), (t246), (x241001_4), (x241002_4), Bd_19, H', ⟨Bd_18⟩, ⟨(by (with_reducible repeat (first | apply Kd.R_alloc | apply Kd.R_drewN | apply Kd.R_drew)); exact Kd.R_mono (Kd.R_far (p := ⟨gb240, 0, none⟩) (Kd.R_types HO_4.out BK240.out (by decide)) (fun _ hk => hk.2) (.int .i64 t246)) (fun _ hk => trivial))⟩, ⟨Bd_10⟩, ⟨(by (with_reducible repeat (first | refine blk_drewN ?_ _ | refine blk_drew ?_ | refine blk_alloc ?_ _)); refine blk_put (cs := #[.int .i64 x241000_4, .int .i64 x241001_4, .int .i64 x241002_4]) ?_ 0 _ rfl; (with_reducible repeat (first | refine blk_drewN ?_ _ | refine blk_drew ?_ | refine blk_alloc ?_ _)); exact BK240.out)⟩, ⟨(Kd.R_dropC (m := 1) (by (with_reducible repeat (first | apply Kd.R_alloc | apply Kd.R_drewN | apply Kd.R_drew)); exact (Kd.R_mono (Kd.R_far (p := ⟨gb240, 0, none⟩) (Kd.R_types HO_4.out BK240.out (by decide)) (fun _ hk => hk.2) (.int .i64 t246)) (fun _ h_ => h_.1))) KL20.out KA20.out Ny241.out)⟩, ⟨hb_⟩⟩
                 ·rw [if_neg c29] at H
                  by_cases c32 : x51_4 = 1
                  ·subst c32
                   rw [if_pos rfl] at H; have H' := Aside0.mk H; clear H; have hnb33 := NB240_232.out; have hnc33 := NB232_240.out; have hz34 := bc3_ BK240.out; go_wp2; go_roundg k4
                   case measure => have := HJ2.out; have := HK2.out; have := HJ11.out; have := HK4.out; omega
                   case rel => exact ⟨(wrap64 (1 + 1)), (x233000_4), (x233001_4), (x233002_4), (x233003_4), (x241000_4), (t246), (x241002_4), Bd_19, H', ⟨Bd_18⟩, ⟨(by (with_reducible repeat (first | apply Kd.R_alloc | apply Kd.R_drewN | apply Kd.R_drew)); exact Kd.R_mono (Kd.R_far (p := ⟨gb240, 1, none⟩) (Kd.R_types HO_4.out BK240.out (by decide)) (fun _ hk => hk.2) (.int .i64 t246)) (fun _ hk => trivial))⟩, ⟨Bd_10⟩, ⟨(by (with_reducible repeat (first | refine blk_drewN ?_ _ | refine blk_drew ?_ | refine blk_alloc ?_ _)); refine blk_put (cs := #[.int .i64 x241000_4, .int .i64 x241001_4, .int .i64 x241002_4]) ?_ 1 _ rfl; (with_reducible repeat (first | refine blk_drewN ?_ _ | refine blk_drew ?_ | refine blk_alloc ?_ _)); exact BK240.out)⟩, ⟨(Kd.R_dropC (m := 1) (by (with_reducible repeat (first | apply Kd.R_alloc | apply Kd.R_drewN | apply Kd.R_drew)); exact (Kd.R_mono (Kd.R_far (p := ⟨gb240, 1, none⟩) (Kd.R_types HO_4.out BK240.out (by decide)) (fun _ hk => hk.2) (.int .i64 t246)) (fun _ h_ => h_.1))) KL20.out KA20.out Ny241.out)⟩, ⟨hb_⟩⟩
                  ·rw [if_neg c32] at H
                   by_cases c35 : x51_4 = 2
                   ·subst c35
                    rw [if_pos rfl] at H; have H' := Aside0.mk H; clear H; have hnb36 := NB240_232.out; have hnc36 := NB232_240.out; have hz37 := bc3_ BK240.out; go_wp2; go_roundg k4
                    case measure => have := HJ2.out; have := HK2.out; have := HJ11.out; have := HK4.out; omega
                    case rel => exact ⟨(wrap64 (2 + 1)), (x233000_4), (x233001_4), (x233002_4), (x233003_4), (x241000_4), (x241001_4), (t246), Bd_19, H', ⟨Bd_18⟩, ⟨(by (with_reducible repeat (first | apply Kd.R_alloc | apply Kd.R_drewN | apply Kd.R_drew)); exact Kd.R_mono (Kd.R_far (p := ⟨gb240, 2, none⟩) (Kd.R_types HO_4.out BK240.out (by decide)) (fun _ hk => hk.2) (.int .i64 t246)) (fun _ hk => trivial))⟩, ⟨Bd_10⟩, ⟨(by (with_reducible repeat (first | refine blk_drewN ?_ _ | refine blk_drew ?_ | refine blk_alloc ?_ _)); refine blk_put (cs := #[.int .i64 x241000_4, .int .i64 x241001_4, .int .i64 x241002_4]) ?_ 2 _ rfl; (with_reducible repeat (first | refine blk_drewN ?_ _ | refine blk_drew ?_ | refine blk_alloc ?_ _)); exact BK240.out)⟩, ⟨(Kd.R_dropC (m := 1) (by (with_reducible repeat (first | apply Kd.R_alloc | apply Kd.R_drewN | apply Kd.R_drew)); exact (Kd.R_mono (Kd.R_far (p := ⟨gb240, 2, none⟩) (Kd.R_types HO_4.out BK240.out (by decide)) (fun _ hk => hk.2) (.int .i64 t246)) (fun _ h_ => h_.1))) KL20.out KA20.out Ny241.out)⟩, ⟨hb_⟩⟩
                   ·rw [if_neg c35] at H
                    exact absurd H (by simp)
                ·replace c28 := Bool.eq_false_iff.mpr c28
                 subst c28; rw [if_neg (show ¬ (false = true) by decide)] at H; simp only [Option.some.injEq, Prod.mk.injEq] at H; obtain ⟨rfl, rfl, rfl, rfl, rfl⟩ := H; have hnb38 := NB232_240.out; have hnc38 := NB240_232.out; have hz39 := bc4_ BK232.out; go_wp2; refine bodyPost_ret (results_ct rfl _ _ gb232 29 #[.int .i64 0, .int .i64 0, .int .i64 0, .int .i64 0] (0, 0) _ rfl (by (with_reducible repeat (first | refine blk_drewN ?_ _ | refine blk_drew ?_ | refine blk_alloc ?_ _)); refine blk_put (cs := #[.int .i64 0, .int .i64 0, .int .i64 0, .int .i64 x233003_4]) ?_ 3 _ rfl; (with_reducible repeat (first | refine blk_drewN ?_ _ | refine blk_drew ?_ | refine blk_alloc ?_ _)); refine blk_put (cs := #[.int .i64 0, .int .i64 0, .int .i64 x233002_4, .int .i64 x233003_4]) ?_ 2 _ rfl; (with_reducible repeat (first | refine blk_drewN ?_ _ | refine blk_drew ?_ | refine blk_alloc ?_ _)); refine blk_put (cs := #[.int .i64 0, .int .i64 x233001_4, .int .i64 x233002_4, .int .i64 x233003_4]) ?_ 1 _ rfl; (with_reducible repeat (first | refine blk_drewN ?_ _ | refine blk_drew ?_ | refine blk_alloc ?_ _)); refine blk_put (cs := #[.int .i64 x233000_4, .int .i64 x233001_4, .int .i64 x233002_4, .int .i64 x233003_4]) ?_ 0 _ rfl; (with_reducible repeat (first | refine blk_drewN ?_ _ | refine blk_drew ?_ | refine blk_alloc ?_ _)); exact BK232.out) Try.underlying29 rfl (by kernel_rfl)) rfl ?_; exact ⟨Bd_5, hb_⟩
               ·rw [if_neg c24] at H
                exact absurd H (by simp)
              ·rw [if_neg c23] at H
               exact absurd H (by simp)
             ·rw [if_neg c22] at H
              have c22b0 : decide (x51_4 < (y241.length : Int)) = false := decide_eq_false c22; clear c22; simp only [Option.some.injEq, Prod.mk.injEq] at H; obtain ⟨rfl, rfl, rfl, rfl, rfl⟩ := H; have hnb40 := NB240_232.out; have hnc40 := NB232_240.out; have hz41 := bc3_ BK240.out; have hz42 := bc4_ BK232.out; go_wp2; refine bodyPost_ret (results_ct rfl _ _ gb232 29 #[.int .i64 x6_2, .int .i64 x241000_4, .int .i64 x241001_4, .int .i64 x241002_4] (0, 0) _ rfl (by (with_reducible repeat (first | refine blk_drewN ?_ _ | refine blk_drew ?_ | refine blk_alloc ?_ _)); refine blk_put (cs := #[.int .i64 x6_2, .int .i64 x241000_4, .int .i64 x241001_4, .int .i64 x233003_4]) ?_ 3 _ rfl; (with_reducible repeat (first | refine blk_drewN ?_ _ | refine blk_drew ?_ | refine blk_alloc ?_ _)); refine blk_put (cs := #[.int .i64 x6_2, .int .i64 x241000_4, .int .i64 x233002_4, .int .i64 x233003_4]) ?_ 2 _ rfl; (with_reducible repeat (first | refine blk_drewN ?_ _ | refine blk_drew ?_ | refine blk_alloc ?_ _)); refine blk_put (cs := #[.int .i64 x6_2, .int .i64 x233001_4, .int .i64 x233002_4, .int .i64 x233003_4]) ?_ 1 _ rfl; (with_reducible repeat (first | refine blk_drewN ?_ _ | refine blk_drew ?_ | refine blk_alloc ?_ _)); refine blk_put (cs := #[.int .i64 x233000_4, .int .i64 x233001_4, .int .i64 x233002_4, .int .i64 x233003_4]) ?_ 0 _ rfl; (with_reducible repeat (first | refine blk_drewN ?_ _ | refine blk_drew ?_ | refine blk_alloc ?_ _)); exact BK232.out) Try.underlying29 rfl (by kernel_rfl)) rfl ?_; exact ⟨Bd_5, hb_⟩
          ·rw [if_neg c18] at H
           exact absurd H (by simp)
      ·rw [if_neg c10] at H
       have c10b0 : decide (x6_2 ≤ 9) = false := decide_eq_false c10; clear c10; simp only [Option.some.injEq, Prod.mk.injEq] at H; obtain ⟨rfl, rfl, rfl, rfl, rfl⟩ := H; have hz43 := bc4_ BK232.out; go_wp2; refine bodyPost_ret (results_ct rfl _ _ gb232 29 #[.int .i64 0, .int .i64 0, .int .i64 0, .int .i64 0] (0, 0) _ rfl (by (with_reducible repeat (first | refine blk_drewN ?_ _ | refine blk_drew ?_ | refine blk_alloc ?_ _)); refine blk_put (cs := #[.int .i64 0, .int .i64 0, .int .i64 0, .int .i64 x233003_2]) ?_ 3 _ rfl; (with_reducible repeat (first | refine blk_drewN ?_ _ | refine blk_drew ?_ | refine blk_alloc ?_ _)); refine blk_put (cs := #[.int .i64 0, .int .i64 0, .int .i64 x233002_2, .int .i64 x233003_2]) ?_ 2 _ rfl; (with_reducible repeat (first | refine blk_drewN ?_ _ | refine blk_drew ?_ | refine blk_alloc ?_ _)); refine blk_put (cs := #[.int .i64 0, .int .i64 x233001_2, .int .i64 x233002_2, .int .i64 x233003_2]) ?_ 1 _ rfl; (with_reducible repeat (first | refine blk_drewN ?_ _ | refine blk_drew ?_ | refine blk_alloc ?_ _)); refine blk_put (cs := #[.int .i64 x233000_2, .int .i64 x233001_2, .int .i64 x233002_2, .int .i64 x233003_2]) ?_ 0 _ rfl; (with_reducible repeat (first | refine blk_drewN ?_ _ | refine blk_drew ?_ | refine blk_alloc ?_ _)); exact BK232.out) Try.underlying29 rfl (by kernel_rfl)) rfl ?_; exact ⟨Bd_5, hb_⟩
end Go.Proofs.Ytjmhhgnknjfnlaa.PFnEventsTold
namespace Go.Proofs.Ytjmhhgnknjfnlaa.PFnEventsTold
open Go.RowKit Go.Proofs.YtjmhhgnknjfnlaaW.PrintWords Go.Proofs.YtjmhhgnknjfnlaaW.PrintLast Go.Proofs.YtjmhhgnknjfnlaaW.PrintMore
attribute [local go_sem] max2_int min2_int max_two min_two max_three min_three max_four min_four
set_option linter.unusedVariables false
set_option linter.unusedSimpArgs false
def impl_cut.l0 : Nat → ByteArray → Int → List ByteArray → Int → Int → Option (List ByteArray)
 | 0, _, _, _, _, _ => none
 | k + 1, x0, x1, x5, x6, x7 => if x7 < (x0.size : Int) then (if 0 ≤ x7 then (if (bt x0 x7) = x1 then (if 0 ≤ x6 then (if x6 ≤ x7 then (if x7 ≤ (x0.size : Int) then (if x5.length < 8796093022208 then (impl_cut.l0 k x0 x1 (x5 ++ [x0.extract (x6 : Int).toNat (x7 : Int).toNat]) (wrap64 (x7 + 1)) (wrap64 (x7 + 1))) else (none)) else (none)) else (none)) else (none)) else (impl_cut.l0 k x0 x1 x5 x6 (wrap64 (x7 + 1)))) else (none)) else (if 0 ≤ x6 then (if x6 ≤ (x0.size : Int) then (if x5.length < 8796093022208 then (some (x5 ++ [x0.extract (x6 : Int).toNat x0.size])) else (none)) else (none)) else (none))
def impl_cut.f (k : Nat) (a0 : ByteArray) (a1 : Int) : Option (List ByteArray) := impl_cut.l0 k a0 a1 (([] : List ByteArray)) 0 0
theorem impl_cut.mono_l : ∀ k, (∀ y0 y1 y2 y3 y4, LeO (impl_cut.l0 k y0 y1 y2 y3 y4) (impl_cut.l0 (k + 1) y0 y1 y2 y3 y4))
 | 0 => fun _ _ _ _ _ r h => by simp [impl_cut.l0] at h
 | k + 1 => by
  have ih0 := impl_cut.mono_l k
  ·intro y0 y1 y2 y3 y4
   unfold impl_cut.l0
   repeat' first
   | (with_reducible exact ih0 _ _ _ _ _)
   | (with_reducible exact LeO.refl _)
   | (with_reducible exact LeO.none _)
   | (with_reducible refine LeO.ite ?_ ?_)
   | (with_reducible refine LeO.bind ?_ (fun _ => ?_))
   | exact ih0 _ _ _ _ _
   | exact LeO.none _
   | refine LeO.ite ?_ ?_
   | refine LeO.bind ?_ (fun _ => ?_)
theorem impl_cut.mono : ∀ a0 a1 k, LeO (impl_cut.f k a0 a1) (impl_cut.f (k + 1) a0 a1) := by
 intro a0 a1 k; have ih0 := impl_cut.mono_l k; unfold impl_cut.f
 repeat' first
   | (with_reducible exact ih0 _ _ _ _ _)
   | (with_reducible exact LeO.refl _)
   | (with_reducible exact LeO.none _)
   | (with_reducible refine LeO.ite ?_ ?_)
   | (with_reducible refine LeO.bind ?_ (fun _ => ?_))
   | exact ih0 _ _ _ _ _
   | exact LeO.none _
   | refine LeO.ite ?_ ?_
   | refine LeO.bind ?_ (fun _ => ?_)
set_option maxHeartbeats 8000000 in
set_option maxRecDepth 100000 in
theorem impl_cut.calls (k : Nat) (a0 : ByteArray) (a1 : Int) (r : List ByteArray) (w : World) (h : impl_cut.f k a0 a1 = some r) :
  Calls Try.prog 75 #[.string a0, .int .u8 a1] w fun e w' => ∃ v0_ : Value, e = .returned (v0_) ∧ Kd.R Kd.string 9 w' w.heap.size (fun _ => True) v0_ r ∧ Below w.heap.size w w' := by
 have HB := Aside0.mk (Below.refl w.heap.size w); have H : (impl_cut.l0 k a0 a1 (([] : List ByteArray)) 0 0) = some r := h; clear h; obtain ⟨y248, hy248⟩ : ∃ y_ : List ByteArray, y_ = (([] : List ByteArray)) := ⟨_, rfl⟩; replace H : (impl_cut.l0 k a0 a1 y248 0 0) = some r := by first | (rw [hy248]; with_reducible exact H) | (have H2_ := (Option.bind_some _ _).symm.trans H; rw [hy248]; with_reducible exact H2_) | (have H2_ := (Option.bind_some _ _).symm.trans H; with_reducible exact H2_) | with_reducible exact H | (rw [hy248]; exact H) | exact H
 have Ny248 := Aside0.mk hy248; clear hy248; have H' := Aside0.mk H; clear H; go_enter Try.func75, Try.ntmps75; go_wp2_with (first | ((with_reducible refine gate_dst (N := 8) rfl ?_); refine Kd.R_lit Kd.string _ 9 ?hg (N := 8) ?hd (xs := ([] : List ByteArray)) (inner := []) (ok := fun _ => True) (okp := fun _ => True) ?hr ?hp (fun _ hk => hk) trivial (Below.refl _ _) (Nat.le_refl _) (by simp) ?_; (case hd => rfl); (case hg => rfl); (case hr => first | (go_simp; done) | (go_simp; rfl)); (case hp => exact (Reps.none _ _)); intro v249 w3 ho4 hb hg_ hnew_; clear hg_ hnew_; (first | rw [← Ny248.out] at ho4 | (simp only [Int.reduceToNat] at ho4; rw [← Ny248.out] at ho4)); have HO250 := Aside0.mk (Kd.R_lower ho4 (below_size hb_)); replace HB := Aside0.mk (below_step hb_ hb); clear hb ho4)); go_loopg [5, 6, 7] k (fun kq v5 v6 v7 w' => ∃ (x5_1 : List ByteArray) (x6_1 : Int) (x7_1 : Int), v6 = .int .i64 x6_1 ∧ v7 = .int .i64 x7_1 ∧ Aside0 (impl_cut.l0 kq a0 a1 x5_1 x6_1 x7_1 = some r) ∧ Aside0 (kq ≤ k) ∧ Aside0 (Kd.R Kd.string 9 w' w.heap.size (fun _ => True) v5 x5_1) ∧ Aside0 (Below w.heap.size w w'))
 case atStart => exact ⟨(y248), (0), (0), Bd_3, Bd_3, H', ⟨Nat.le_refl _⟩, ⟨(by (with_reducible repeat (first | apply Kd.R_alloc | apply Kd.R_drewN | apply Kd.R_drew)); exact HO250.out)⟩, ⟨hb_⟩⟩
 case round =>
  clear H'; try clear p2
  obtain ⟨x5_1, x6_1, x7_1, rfl, rfl, HA, HK1, HO_5, HB⟩ := hrel; cases gk with
  | zero => exact absurd HA.out (by simp [impl_cut.l0])
  | succ k1 =>
   have H := HA.out; clear HA; simp only [impl_cut.l0] at H; by_cases c5 : x7_1 < (a0.size : Int)
   ·rw [if_pos c5] at H
    have c5b0 : decide (x7_1 < (a0.size : Int)) = true := decide_eq_true c5; clear c5; by_cases c6 : 0 ≤ x7_1
    ·rw [if_pos c6] at H
     have c6b0 : decide (0 ≤ x7_1) = true := decide_eq_true c6; clear c6; by_cases c8 : (bt a0 x7_1) = a1
     ·rw [if_pos c8] at H
      have c8b0 : ((bt a0 x7_1) == a1) = true := beq_iff_eq.mpr c8; have c8b1 : ((bt a0 x7_1) != a1) = false := bne_eq_false_iff_eq.mpr c8; clear c8; by_cases c9 : 0 ≤ x6_1
      ·rw [if_pos c9] at H
       have c9b0 := eq_true c9; have c9b1 : decide (0 ≤ x6_1) = true := decide_eq_true c9; clear c9; by_cases c10 : x6_1 ≤ x7_1
       ·rw [if_pos c10] at H
        have c10b0 := eq_true c10; have c10b1 : decide (x6_1 ≤ x7_1) = true := decide_eq_true c10; clear c10; by_cases c11 : x7_1 ≤ (a0.size : Int)
        ·rw [if_pos c11] at H
         have c11b0 := eq_true c11; have c11b1 : decide (x7_1 ≤ (a0.size : Int)) = true := decide_eq_true c11; clear c11; by_cases c12 : x5_1.length < 8796093022208
         ·rw [if_pos c12] at H
          have LMc12 := Aside0.mk c12; clear c12; obtain ⟨y251, hy251⟩ : ∃ y_ : List ByteArray, y_ = (x5_1 ++ [a0.extract (x6_1 : Int).toNat (x7_1 : Int).toNat]) := ⟨_, rfl⟩; replace H : (impl_cut.l0 k1 a0 a1 y251 (wrap64 (x7_1 + 1)) (wrap64 (x7_1 + 1))) = some r := by first | (rw [hy251]; with_reducible exact H) | (have H2_ := (Option.bind_some _ _).symm.trans H; rw [hy251]; with_reducible exact H2_) | (have H2_ := (Option.bind_some _ _).symm.trans H; with_reducible exact H2_) | with_reducible exact H | (rw [hy251]; exact H) | exact H
          have Ny251 := Aside0.mk hy251; clear hy251; have H' := Aside0.mk H; clear H; have p7 : 0 ≤ (x7_1 : Int) := of_decide_eq_true Bd_4; have q7 : x7_1 < (a0.size : Int) := of_decide_eq_true Bd_4; have hx7 := bt_at a0 x7_1; replace p7 := eq_true p7; replace q7 := eq_true q7; go_wp2_with (first | ((with_reducible refine gate_builtin (b := .append) (xs := #[.tmp 20, .tmp 25]) rfl ?_); at_builtin; refine Kd.R_append Kd.string (w0 := w) w.heap.size rfl (.tmp 20) (.tmp 25) 121 9 (.string ⟨#[]⟩) 16 rfl Try.underlying121 info9 rfl (by decide) (by omega) u5 x5_1 (a0.extract (x6_1 : Int).toNat (x7_1 : Int).toNat) [.string (a0.extract (x6_1 : Int).toNat (x7_1 : Int).toNat)] (fun _ => True) (fun _ => False) rfl rfl ?aP (fun _ hk => hk.elim) ?aF ?aO ?aB ?aS ?aL ?_; (case aP => exact rfl); (case aB => exact hb_); (case aF => exact (fun _ _ => trivial)); (case aO => exact Bd_2); (case aS => exact (below_size hb_)); (case aL => have := LMc12.out; omega); intro v252 w13 ho hb hg hat; rw [← Ny251.out] at ho; replace HB := Aside0.mk (hb); have HO253 := Aside0.mk (ho); clear HO_5; clear ho hb hg hat)); go_roundg k1
          case measure => have := HK1.out; omega
          case rel => exact ⟨(y251), (wrap64 (x7_1 + 1)), (wrap64 (x7_1 + 1)), Bd_3, Bd_3, H', ⟨(by have := HK1.out; omega)⟩, ⟨(by (with_reducible repeat (first | apply Kd.R_alloc | apply Kd.R_drewN | apply Kd.R_drew)); exact HO253.out)⟩, ⟨hb_⟩⟩
         ·rw [if_neg c12] at H
          exact absurd H (by simp)
        ·rw [if_neg c11] at H
         exact absurd H (by simp)
       ·rw [if_neg c10] at H
        exact absurd H (by simp)
      ·rw [if_neg c9] at H
       exact absurd H (by simp)
     ·rw [if_neg c8] at H
      have c8b0 : ((bt a0 x7_1) == a1) = false := beq_eq_false_iff_ne.mpr c8; have c8b1 : ((bt a0 x7_1) != a1) = true := bne_iff_ne.mpr c8; have H' := Aside0.mk H; clear H; have p7 : 0 ≤ (x7_1 : Int) := of_decide_eq_true Bd_4; have q7 : x7_1 < (a0.size : Int) := of_decide_eq_true Bd_4; have hx7 := bt_at a0 x7_1; replace p7 := eq_true p7; replace q7 := eq_true q7; go_wp2; go_roundg k1
      case measure => have := HK1.out; omega
      case rel => exact ⟨(x5_1), (x6_1), (wrap64 (x7_1 + 1)), Bd_3, Bd_3, H', ⟨(by have := HK1.out; omega)⟩, ⟨Bd_2⟩, ⟨hb_⟩⟩
    ·rw [if_neg c6] at H
     exact absurd H (by simp)
   ·rw [if_neg c5] at H
    have c5b0 : decide (x7_1 < (a0.size : Int)) = false := decide_eq_false c5; clear c5; by_cases c14 : 0 ≤ x6_1
    ·rw [if_pos c14] at H
     have c14b0 := eq_true c14; have c14b1 : decide (0 ≤ x6_1) = true := decide_eq_true c14; clear c14; by_cases c15 : x6_1 ≤ (a0.size : Int)
     ·rw [if_pos c15] at H
      have c15b0 := eq_true c15; have c15b1 : decide (x6_1 ≤ (a0.size : Int)) = true := decide_eq_true c15; clear c15; by_cases c16 : x5_1.length < 8796093022208
      ·rw [if_pos c16] at H
       have LMc16 := Aside0.mk c16; clear c16; obtain ⟨y254, hy254⟩ : ∃ y_ : List ByteArray, y_ = (x5_1 ++ [a0.extract (x6_1 : Int).toNat a0.size]) := ⟨_, rfl⟩; replace H : (some y254) = some r := by first | (rw [hy254]; with_reducible exact H) | (have H2_ := (Option.bind_some _ _).symm.trans H; rw [hy254]; with_reducible exact H2_) | (have H2_ := (Option.bind_some _ _).symm.trans H; with_reducible exact H2_) | with_reducible exact H | (rw [hy254]; exact H) | exact H
       have Ny254 := Aside0.mk hy254; clear hy254; obtain rfl := Option.some.inj H; go_wp2_with (first | ((with_reducible refine gate_builtin (b := .append) (xs := #[.tmp 29, .tmp 33]) rfl ?_); at_builtin; refine Kd.R_append Kd.string (w0 := w) w.heap.size rfl (.tmp 29) (.tmp 33) 121 9 (.string ⟨#[]⟩) 16 rfl Try.underlying121 info9 rfl (by decide) (by omega) u5 x5_1 (a0.extract (x6_1 : Int).toNat a0.size) [.string (a0.extract (x6_1 : Int).toNat a0.size)] (fun _ => True) (fun _ => False) rfl rfl ?aP (fun _ hk => hk.elim) ?aF ?aO ?aB ?aS ?aL ?_; (case aP => exact rfl); (case aB => exact hb_); (case aF => exact (fun _ _ => trivial)); (case aO => exact Bd_2); (case aS => exact (below_size hb_)); (case aL => have := LMc16.out; omega); intro v255 w17 ho hb hg hat; rw [← Ny254.out] at ho; replace HB := Aside0.mk (hb); have HO256 := Aside0.mk (ho); clear HO_5; clear ho hb hg hat)); go_ret; exact ⟨_, Bd_5, (by (with_reducible repeat (first | apply Kd.R_alloc | apply Kd.R_drewN | apply Kd.R_drew)); exact HO256.out), hb_⟩
      ·rw [if_neg c16] at H
       exact absurd H (by simp)
     ·rw [if_neg c15] at H
      exact absurd H (by simp)
    ·rw [if_neg c14] at H
     exact absurd H (by simp)
end Go.Proofs.Ytjmhhgnknjfnlaa.PFnEventsTold
namespace Go.Proofs.Ytjmhhgnknjfnlaa.PFnEventsTold
open Go.RowKit Go.Proofs.YtjmhhgnknjfnlaaW.PrintWords Go.Proofs.YtjmhhgnknjfnlaaW.PrintLast Go.Proofs.YtjmhhgnknjfnlaaW.PrintMore
attribute [local go_sem] max2_int min2_int max_two min_two max_three min_three max_four min_four
set_option linter.unusedVariables false
set_option linter.unusedSimpArgs false
mutual
def impl_ReadScript.l0 : Nat → List (S29) → List ByteArray → List ByteArray → Int → Int → Option ((List (S29)) × Int × Bool)
 | 0, _, _, _, _, _ => none
 | k + 1, x5, x6, x20, x21, x22 => if x22 < x21 then (if 0 ≤ x22 then (if x22 < (x20.length : Int) then ((impl_PartsOf.f k (rdOf ByteArray.empty x20 x22)).bind fun bt267 => (if bt267.2 = true then (if (bt267.1.length : Int) = 0 then (impl_ReadScript.j1 k x5 x6 x22 (rdOf ByteArray.empty x20 x22) x20 x21 x22 true) else (if 0 < (bt267.1.length : Int) then (if 0 < ((rdOf ByteArray.empty bt267.1 0).size : Int) then (impl_ReadScript.j1 k x5 x6 x22 (rdOf ByteArray.empty x20 x22) x20 x21 x22 ((bt (rdOf ByteArray.empty bt267.1 0) 0) == 35)) else (none)) else (none))) else (impl_ReadScript.j1 k x5 x6 x22 (rdOf ByteArray.empty x20 x22) x20 x21 x22 false))) else (none)) else (none)) else (if (x5.length : Int) > 60 then (some ((([] : List (S29))), 0, false)) else (some (x5, (x6.length : Int), true)))
def impl_ReadScript.j1 : Nat → List (S29) → List ByteArray → Int → ByteArray → List ByteArray → Int → Int → Bool → Option ((List (S29)) × Int × Bool)
 | 0, _, _, _, _, _, _, _, _ => none
 | k + 1, x5, x6, x7, x8, x20, x21, x22, x44 => if x44 = true then (impl_ReadScript.l0 k x5 x6 x20 x21 (wrap64 (x22 + 1))) else ((impl_ReadEvent.f k x8).bind fun bt272 => (if bt272.2.2.2.2 = true then (if x5.length < 4398046511104 then (impl_ReadScript.l0 k (x5 ++ [(⟨bt272.1, bt272.2.1, bt272.2.2.1, bt272.2.2.2.1⟩ : S29)]) x6 x20 x21 (wrap64 (x22 + 1))) else (none)) else (some ((([] : List (S29))), wrap64 (x7 + 1), false))))
end
def impl_ReadScript.f (k : Nat) (a0 : ByteArray) : Option ((List (S29)) × Int × Bool) := (some (([] : List (S29)) : List (S29))).bind fun y257 => (if (a0.size : Int) > 20000 then (some (y257, 0, false)) else ((impl_cut.f k a0 10).bind fun t260 => (impl_ReadScript.l0 k y257 t260 t260 (t260.length : Int) 0)))
theorem impl_ReadScript.mono_l : ∀ k, (∀ y0 y1 y2 y3 y4, LeO (impl_ReadScript.l0 k y0 y1 y2 y3 y4) (impl_ReadScript.l0 (k + 1) y0 y1 y2 y3 y4)) ∧ (∀ y0 y1 y2 y3 y4 y5 y6 y7, LeO (impl_ReadScript.j1 k y0 y1 y2 y3 y4 y5 y6 y7) (impl_ReadScript.j1 (k + 1) y0 y1 y2 y3 y4 y5 y6 y7))
 | 0 => ⟨fun _ _ _ _ _ r h => by simp [impl_ReadScript.l0] at h, fun _ _ _ _ _ _ _ _ r h => by simp [impl_ReadScript.j1] at h⟩
 | k + 1 => by
  obtain ⟨ih0, ih1⟩ := impl_ReadScript.mono_l k; refine ⟨?_, ?_⟩
  ·intro y0 y1 y2 y3 y4
   unfold impl_ReadScript.l0
   repeat' first
   | (with_reducible exact ih0 _ _ _ _ _)
   | (with_reducible exact ih1 _ _ _ _ _ _ _ _)
   | (with_reducible exact impl_PartsOf.mono _ _)
   | (with_reducible exact impl_ReadEvent.mono _ _)
   | (with_reducible exact impl_cut.mono _ _ _)
   | (with_reducible exact LeO.refl _)
   | (with_reducible exact LeO.none _)
   | (with_reducible refine LeO.ite ?_ ?_)
   | (with_reducible refine LeO.bind ?_ (fun _ => ?_))
   | exact ih0 _ _ _ _ _
   | exact ih1 _ _ _ _ _ _ _ _
   | exact impl_PartsOf.mono _ _
   | exact impl_ReadEvent.mono _ _
   | exact impl_cut.mono _ _ _
   | exact LeO.none _
   | refine LeO.ite ?_ ?_
   | refine LeO.bind ?_ (fun _ => ?_)
  ·intro y0 y1 y2 y3 y4 y5 y6 y7
   unfold impl_ReadScript.j1
   repeat' first
   | (with_reducible exact ih0 _ _ _ _ _)
   | (with_reducible exact ih1 _ _ _ _ _ _ _ _)
   | (with_reducible exact impl_PartsOf.mono _ _)
   | (with_reducible exact impl_ReadEvent.mono _ _)
   | (with_reducible exact impl_cut.mono _ _ _)
   | (with_reducible exact LeO.refl _)
   | (with_reducible exact LeO.none _)
   | (with_reducible refine LeO.ite ?_ ?_)
   | (with_reducible refine LeO.bind ?_ (fun _ => ?_))
   | exact ih0 _ _ _ _ _
   | exact ih1 _ _ _ _ _ _ _ _
   | exact impl_PartsOf.mono _ _
   | exact impl_ReadEvent.mono _ _
   | exact impl_cut.mono _ _ _
   | exact LeO.none _
   | refine LeO.ite ?_ ?_
   | refine LeO.bind ?_ (fun _ => ?_)
theorem impl_ReadScript.mono : ∀ a0 k, LeO (impl_ReadScript.f k a0) (impl_ReadScript.f (k + 1) a0) := by
 intro a0 k; obtain ⟨ih0, ih1⟩ := impl_ReadScript.mono_l k; unfold impl_ReadScript.f
 repeat' first
   | (with_reducible exact ih0 _ _ _ _ _)
   | (with_reducible exact ih1 _ _ _ _ _ _ _ _)
   | (with_reducible exact impl_PartsOf.mono _ _)
   | (with_reducible exact impl_ReadEvent.mono _ _)
   | (with_reducible exact impl_cut.mono _ _ _)
   | (with_reducible exact LeO.refl _)
   | (with_reducible exact LeO.none _)
   | (with_reducible refine LeO.ite ?_ ?_)
   | (with_reducible refine LeO.bind ?_ (fun _ => ?_))
   | exact ih0 _ _ _ _ _
   | exact ih1 _ _ _ _ _ _ _ _
   | exact impl_PartsOf.mono _ _
   | exact impl_ReadEvent.mono _ _
   | exact impl_cut.mono _ _ _
   | exact LeO.none _
   | refine LeO.ite ?_ ?_
   | refine LeO.bind ?_ (fun _ => ?_)
set_option maxHeartbeats 8000000 in
set_option maxRecDepth 100000 in
theorem impl_ReadScript.calls (k : Nat) (a0 : ByteArray) (r1 : List (S29)) (r2 : Int) (r3 : Bool) (w : World) (h : impl_ReadScript.f k a0 = some (r1, r2, r3)) :
  Calls Try.prog 18 #[.string a0] w fun e w' => ∃ v0_ : Value, e = .returned (.tuple #[v0_, .int .i64 r2, .bool r3]) ∧ Kd.R k29 29 w' w.heap.size (fun _ => True) v0_ r1 ∧ Below w.heap.size w w' := by
 have hu29 := Try.underlying29; have HB := Aside0.mk (Below.refl w.heap.size w); have H : ((some (([] : List (S29)) : List (S29))).bind fun y257 => (if (a0.size : Int) > 20000 then (some (y257, 0, false)) else ((impl_cut.f k a0 10).bind fun t260 => (impl_ReadScript.l0 k y257 t260 t260 (t260.length : Int) 0)))) = some (r1, r2, r3) := h; clear h; obtain ⟨y257, hy257⟩ : ∃ y_ : List (S29), y_ = (([] : List (S29))) := ⟨_, rfl⟩; replace H : (if (a0.size : Int) > 20000 then (some (y257, 0, false)) else ((impl_cut.f k a0 10).bind fun t260 => (impl_ReadScript.l0 k y257 t260 t260 (t260.length : Int) 0))) = some (r1, r2, r3) := by first | (rw [hy257]; with_reducible exact H) | (have H2_ := (Option.bind_some _ _).symm.trans H; rw [hy257]; with_reducible exact H2_) | (have H2_ := (Option.bind_some _ _).symm.trans H; with_reducible exact H2_) | with_reducible exact H | (rw [hy257]; exact H) | exact H
 have Ny257 := Aside0.mk hy257; clear hy257; have HC2 := Aside0.mk H; clear H; go_enter Try.func18, Try.ntmps18; go_upto_if 16 with (first | ((with_reducible refine gate_dst (N := 13) rfl ?_); (try (refine gate_guard (by rfl) ?_; dsimp only)); refine Kd.R_lit k29 _ 29 ?hg (N := 13) ?hd (xs := ([] : List (S29))) (inner := []) (ok := fun _ => True) (okp := fun _ => True) ?hr ?hp (fun _ hk => hk) trivial (Below.refl _ _) (Nat.le_refl _) (by simp) ?_; (case hd => rfl); (case hg => rfl); (case hr => first | (go_simp; done) | (go_simp; rfl)); (case hp => exact (Reps.none _ _)); intro v258 w3 ho4 hb hg_ hnew_; clear hg_ hnew_; (first | rw [← Ny257.out] at ho4 | (simp only [Int.reduceToNat] at ho4; rw [← Ny257.out] at ho4)); have HO259 := Aside0.mk (Kd.R_lower ho4 (below_size hb_)); replace HB := Aside0.mk (below_step hb_ hb); clear hb ho4))
 (try simp only [Act.put, List.setIfInBounds_toArray, List.set_cons_zero, List.set_cons_succ]); have H := HC2.out; clear HC2; by_cases c5 : (a0.size : Int) > 20000
 ·rw [if_pos c5] at H
  have c5b0 : decide (20000 < (a0.size : Int)) = true := decide_eq_true c5; have c5b1 : decide (20000 < a0.size) = true := decide_eq_true (by omega); clear c5; (first | rw [c5b0] | (simp only [i64_w, i32_w]; rw [c5b0]) | skip); simp only [Option.some.injEq, Prod.mk.injEq] at H; obtain ⟨rfl, rfl, rfl⟩ := H; go_wp2; go_ret3
  exact ⟨_, Bd_5, Bd_16, hb_⟩
 ·rw [if_neg c5] at H
  have c5b0 : decide (20000 < (a0.size : Int)) = false := decide_eq_false c5; have c5b1 : decide (20000 < a0.size) = false := decide_eq_false (by omega); clear c5; (first | rw [c5b0] | (simp only [i64_w, i32_w]; rw [c5b0]) | skip); replace H := Option.bind_eq_some_iff.mp H; obtain ⟨t260, A60, H⟩ := H; try dsimp only at H
  have A6 := Aside0.mk A60; clear A60; have H' := Aside0.mk H; clear H; go_wp2_with (first | ((with_reducible refine gate_callee (f := 75) rfl ?_); refine gA_ (some 19) Try.func75 (impl_cut.calls _ _ _ _ _ A6.out) ?_; rintro e w7 ⟨v261, rfl, ho0, hb⟩; refine ⟨_, rfl, ?_⟩; replace HO259 := Aside0.mk (Kd.R_below Bd_16 hb); have HO262 := Aside0.mk (Kd.R_lower ho0 (below_size hb_)); replace HB := Aside0.mk (below_step hb_ hb); (try clear hb); (try clear hb2); (try clear hk); (try clear hi); (try clear ho0); obtain ⟨Ao8, co8, eo8⟩ := Kd.R_slice HO262.out; subst eo8)); go_loopg [5, 22] k (fun kq v5 v22 w' => ∃ (x5_1 : List (S29)) (x22_1 : Int), v22 = .int .i64 x22_1 ∧ Aside0 (impl_ReadScript.l0 kq x5_1 t260 t260 (t260.length : Int) x22_1 = some (r1, r2, r3)) ∧ Aside0 (kq ≤ k) ∧ Aside0 (Kd.R k29 29 w' w.heap.size (fun _ => True) v5 x5_1) ∧ Aside0 (Kd.R Kd.string 9 w' w.heap.size (fun _ => True) (.slice Ao8 t260.length co8) t260) ∧ Aside0 (Kd.R Kd.string 9 w' w.heap.size (fun _ => True) (.slice Ao8 t260.length co8) t260) ∧ Aside0 (Below w.heap.size w w'))
  case atStart => exact ⟨(y257), (0), Bd_3, H', ⟨Nat.le_refl _⟩, ⟨Bd_16⟩, ⟨Bd_21⟩, ⟨Bd_21⟩, ⟨hb_⟩⟩
  case round =>
   clear H'; try clear c1; try clear p2; try clear c5; try clear c5b0; try clear c5b1; try clear c7
   obtain ⟨x5_1, x22_1, rfl, HA, HK1, HO_5, HO_6, HO_20, HB⟩ := hrel; cases gk with
   | zero => exact absurd HA.out (by simp [impl_ReadScript.l0])
   | succ k1 =>
    have H := HA.out; clear HA; simp only [impl_ReadScript.l0] at H; by_cases c9 : x22_1 < (t260.length : Int)
    ·rw [if_pos c9] at H
     have c9b0 : decide (x22_1 < (t260.length : Int)) = true := decide_eq_true c9; clear c9; by_cases c10 : 0 ≤ x22_1
     ·rw [if_pos c10] at H
      have c10b0 : decide (0 ≤ x22_1) = true := decide_eq_true c10; clear c10; by_cases c11 : x22_1 < (t260.length : Int)
      ·rw [if_pos c11] at H
       have c11b0 : decide (x22_1 < (t260.length : Int)) = true := decide_eq_true c11; clear c11; replace H := Option.bind_eq_some_iff.mp H; obtain ⟨⟨t267, t268⟩, A120, H⟩ := H; try dsimp only at H
       have A12 := Aside0.mk A120; clear A120; have HC13 := Aside0.mk H; clear H; have p266 : 0 ≤ (x22_1 : Int) := of_decide_eq_true Bd_4; have q266 : x22_1 < (t260.length : Int) := of_decide_eq_true Bd_4; obtain ⟨ad266, e266, hx266_0⟩ := Kd.at_string (Kd.R_reads' HO_20.out).2.2 x22_1 p266 q266; cases e266; replace p266 := eq_true p266; replace q266 := eq_true q266; go_upto_region 9 with (first | ((with_reducible refine gate_callee (f := 73) rfl ?_); refine gA_ (some 29) Try.func73 (impl_PartsOf.calls _ _ _ _ _ A12.out) ?_; rintro e w14 ⟨v269, rfl, ho0, hb⟩; refine ⟨_, rfl, ?_⟩; replace HO_5 := Aside0.mk (Kd.R_below Bd_2 hb); have HO270 := Aside0.mk (Kd.R_lower (Kd.R_new' (Kd.R_new' ho0 (Kd.R_lt Bd_9)) (Kd.R_lt Bd_7)) (below_size hb_)); replace HO_6 := Aside0.mk (Kd.R_elder' Bd_9 (Kd.R_base ho0) hb); replace HO_20 := Aside0.mk (Kd.R_elder' Bd_7 (Kd.R_base ho0) hb); replace HB := Aside0.mk (below_step hb_ hb); (try clear hb); (try clear hb2); (try clear hk); (try clear hi); (try clear ho0)))
       (try simp only [Act.put, List.setIfInBounds_toArray, List.set_cons_zero, List.set_cons_succ]); go_cut [44] (fun v44 wc => ∃ (kq : Nat) (x44_12 : Bool), v44 = .bool x44_12 ∧ Aside0 (impl_ReadScript.j1 kq x5_1 t260 x22_1 (rdOf ByteArray.empty t260 x22_1) t260 (t260.length : Int) x22_1 x44_12 = some (r1, r2, r3)) ∧ Aside0 (kq ≤ k1) ∧ Aside0 (Kd.R k29 29 wc w.heap.size (fun _ => True) u5 x5_1) ∧ Aside0 (Kd.R Kd.string 9 wc w.heap.size (fun _ => True) (.slice (some ad266) t260.length co8) t260) ∧ Aside0 (Kd.R Kd.string 9 wc w.heap.size (fun _ => True) (.slice (some ad266) t260.length co8) t260) ∧ Aside0 (Below w.heap.size w wc))
       case first =>
        have H := HC13.out; clear HC13; by_cases c15 : t268 = true
        ·subst c15
         rw [if_pos rfl] at H; by_cases c16 : (t267.length : Int) = 0
         ·rw [if_pos c16] at H
          have c16b0 : ((t267.length : Int) == 0) = true := beq_iff_eq.mpr c16; have c16b1 : ((t267.length : Int) != 0) = false := bne_eq_false_iff_eq.mpr c16; clear c16; (first | rw [c16b0] | (simp only [i64_w, i32_w]; rw [c16b0]) | skip); have H' := Aside0.mk H; clear H; obtain ⟨Ao17, co17, eo17⟩ := Kd.R_slice HO270.out; subst eo17; go_wp2; go_meet
          case rel => exact ⟨_, (true), Bd_3, H', ⟨Bd_22⟩, ⟨Bd_2⟩, ⟨Bd_14⟩, ⟨Bd_13⟩, ⟨hb_⟩⟩
         ·rw [if_neg c16] at H
          have c16b0 : ((t267.length : Int) == 0) = false := beq_eq_false_iff_ne.mpr c16; have c16b1 : ((t267.length : Int) != 0) = true := bne_iff_ne.mpr c16; have c16b2 : ¬ (t267 = []) := fun h_ => c16 (by rw [h_]; rfl)
          (first | rw [c16b0] | (simp only [i64_w, i32_w]; rw [c16b0]) | skip); by_cases c18 : 0 < (t267.length : Int)
          ·rw [if_pos c18] at H
           have c18b0 : decide (0 < (t267.length : Int)) = true := decide_eq_true c18; have c18b1 : decide (0 < t267.length) = true := decide_eq_true (by omega); clear c18; by_cases c19 : 0 < ((rdOf ByteArray.empty t267 0).size : Int)
           ·rw [if_pos c19] at H
            have c19b0 : decide (0 < ((rdOf ByteArray.empty t267 0).size : Int)) = true := decide_eq_true c19; have c19b1 : decide (0 < (rdOf ByteArray.empty t267 0).size) = true := decide_eq_true (by omega); clear c19; have H' := Aside0.mk H; clear H; obtain ⟨Ao21, co21, eo21⟩ := Kd.R_slice HO270.out; subst eo21; have p271 : 0 ≤ (0 : Int) := (by omega); have q271 : 0 < (t267.length : Int) := of_decide_eq_true Bd_4; obtain ⟨ad271, e271, hx271_0⟩ := Kd.at_string (Kd.R_reads' HO270.out).2.2 0 p271 q271; cases e271; have qi271 : (0 < t267.length) = True := eq_true (by omega); (try rw [show ((0 : Int)).toNat = 0 from rfl] at hx271_0); (try rw [Addr.add_zero'] at hx271_0); replace p271 := eq_true p271; replace q271 := eq_true q271; have p20 : 0 ≤ (0 : Int) := (by omega); have q20 : 0 < (rdOf ByteArray.empty t267 0).size := (by have : (0 : Int) < ((rdOf ByteArray.empty t267 0).size : Int) := of_decide_eq_true Bd_4; omega); have hx20 : ∀ h : 0 < (rdOf ByteArray.empty t267 0).size, (((rdOf ByteArray.empty t267 0)[0]'h).toNat : Int) = bt (rdOf ByteArray.empty t267 0) 0 := bt_at (rdOf ByteArray.empty t267 0) 0; clear p20; have qi20 : (0 < ((rdOf ByteArray.empty t267 0).size : Int)) = True := eq_true (of_decide_eq_true Bd_4); replace q20 := eq_true q20; go_wp2; go_meet
            case rel => exact ⟨_, (((bt (rdOf ByteArray.empty t267 0) 0) == 35)), Bd_3, H', ⟨Bd_22⟩, ⟨Bd_2⟩, ⟨Bd_14⟩, ⟨Bd_13⟩, ⟨hb_⟩⟩
           ·rw [if_neg c19] at H
            exact absurd H (by simp)
          ·rw [if_neg c18] at H
           exact absurd H (by simp)
        ·replace c15 := Bool.eq_false_iff.mpr c15
         subst c15; rw [if_neg (show ¬ (false = true) by decide)] at H; have H' := Aside0.mk H; clear H; go_wp2; go_meet
         case rel => exact ⟨_, (false), Bd_3, H', ⟨Bd_22⟩, ⟨Bd_2⟩, ⟨Bd_14⟩, ⟨Bd_13⟩, ⟨hb_⟩⟩
       case rest =>
        clear HC13; try clear c1; try clear p2; try clear q2; try clear hx2; try clear qi2; try clear c5; try clear c5b0; try clear c5b1; try clear c7; try clear c9; try clear c9b0; try clear c10; try clear c10b0; try clear c11; try clear c11b0; try clear c15; try clear c16; try clear c16b0; try clear c16b1; try clear c16b2; try clear c18; try clear c18b0; try clear c18b1; try clear c19; try clear c19b0; try clear c19b1; try clear p20; try clear q20; try clear hx20; try clear qi20; try clear hx266_0; try clear hx271_0; try clear p266; try clear p271; try clear q266; try clear q271
        obtain ⟨kq, x44_12, rfl, HA, HJ12, HO_5, HO_6, HO_20, HB⟩ := hcut; cases kq with
        | zero => exact absurd HA.out (by simp [impl_ReadScript.j1])
        | succ kj12 =>
         have H := HA.out; clear HA; simp only [impl_ReadScript.j1] at H; by_cases c22 : x44_12 = true
         ·subst c22
          rw [if_pos rfl] at H; have H' := Aside0.mk H; clear H; go_wp2; go_roundg kj12
          case measure => have := HK1.out; have := HJ12.out; omega
          case rel => exact ⟨(x5_1), (wrap64 (x22_1 + 1)), Bd_3, H', ⟨(by have := HK1.out; have := HJ12.out; omega)⟩, ⟨Bd_2⟩, ⟨Bd_9⟩, ⟨Bd_7⟩, ⟨hb_⟩⟩
         ·replace c22 := Bool.eq_false_iff.mpr c22
          subst c22; rw [if_neg (show ¬ (false = true) by decide)] at H; replace H := Option.bind_eq_some_iff.mp H; obtain ⟨⟨t272, t273, t274, t275, t276⟩, A230, H⟩ := H; try dsimp only at H
          have A23 := Aside0.mk A230; clear A230; have HC24 := Aside0.mk H; clear H; go_upto_if 51 with (first | ((with_reducible refine gate_callee (f := 17) rfl ?_); refine gA_ (some 47) Try.func17 (impl_ReadEvent.calls _ _ _ _ _ _ _ _ A23.out) ?_; rintro e w25 ⟨rfl, hb⟩; refine ⟨_, rfl, ?_⟩; replace HO_5 := Aside0.mk (Kd.R_below Bd_2 hb); replace HO_6 := Aside0.mk (Kd.R_below Bd_9 hb); replace HO_20 := Aside0.mk (Kd.R_below Bd_7 hb); replace HB := Aside0.mk (below_step hb_ hb); (try clear hb); (try clear hb2); (try clear hk); (try clear hi)) | ((with_reducible refine gate_dst (N := 11) rfl ?_); (try (refine gate_guard (by rfl) ?_; dsimp only)); refine box_event ?hg (N := 11) ?hd (cs := #[.int .i64 0, .int .i64 0, .int .i64 0, .int .i64 0]) (t := 29) ?hr ?_; (case hd => rfl); (case hg => rfl); (case hr => first | (go_simp; done) | (go_simp; rfl)); intro gb277 hg w26 hbox hb; replace HO_5 := Aside0.mk (Kd.R_below (Kd.R_elderB Bd_2 gb277 (Nat.le_of_eq hg.symm)) hb); replace HO_6 := Aside0.mk (Kd.R_below Bd_9 hb); replace HO_20 := Aside0.mk (Kd.R_below Bd_7 hb); have BK277 := Aside0.mk (hbox); have GW277 := gw_ hg hb_; have GE277 := gw_ hg hb_; replace HB := Aside0.mk (below_step hb_ hb); clear hb hbox hg; have hz27 := bc4_ BK277.out))
          (try simp only [Act.put, List.setIfInBounds_toArray, List.set_cons_zero, List.set_cons_succ]); have H := HC24.out; clear HC24; by_cases c28 : t276 = true
          ·subst c28
           rw [if_pos rfl] at H; by_cases c29 : x5_1.length < 4398046511104
           ·rw [if_pos c29] at H
            have LMc29 := Aside0.mk c29; clear c29; obtain ⟨y278, hy278⟩ : ∃ y_ : List (S29), y_ = (x5_1 ++ [(⟨t272, t273, t274, t275⟩ : S29)]) := ⟨_, rfl⟩; replace H : (impl_ReadScript.l0 kj12 y278 t260 t260 (t260.length : Int) (wrap64 (x22_1 + 1))) = some (r1, r2, r3) := by first | (rw [hy278]; with_reducible exact H) | (have H2_ := (Option.bind_some _ _).symm.trans H; rw [hy278]; with_reducible exact H2_) | (have H2_ := (Option.bind_some _ _).symm.trans H; with_reducible exact H2_) | with_reducible exact H | (rw [hy278]; exact H) | exact H
            have Ny278 := Aside0.mk hy278; clear hy278; have H' := Aside0.mk H; clear H; have hz30 := bc4_ BK277.out; go_wp2_with (first | ((with_reducible refine gate_builtin (b := .append) (xs := #[.tmp 55, .tmp 57]) rfl ?_); (try (refine gate_guard (by rfl) ?_; dsimp only)); at_builtin; refine Kd.R_append k29 (w0 := w) w.heap.size rfl (.tmp 55) (.tmp 57) 24 29 (.agg #[(.int .i64 0), (.int .i64 0), (.int .i64 0), (.int .i64 0)]) 32 rfl Try.underlying24 info29 rfl (by decide) (by omega) u5 x5_1 (⟨t272, t273, t274, t275⟩ : S29) [.int .i64 t272, .int .i64 t273, .int .i64 t274, .int .i64 t275] (fun k_ => k_ ≠ gb277) (fun _ => False) rfl (by first | (go_simp; done) | (go_simp; rfl)) ?aP (fun _ hk => hk.elim) ?aF ?aO ?aB ?aS ?aL ?_; (case aP => exact k29_mkM _ _ _ (⟨t272, t273, t274, t275⟩ : S29)); (case aB => exact hb_); (case aF => exact (fun k_ hk => Kd.freshB (g := gb277) (o := .cells #[.int .i64 t272, .int .i64 t273, .int .i64 t274, .int .i64 t275] 29 (0, 0)) Bd_0 k_ hk)); (case aO => exact (by (with_reducible repeat (first | apply Kd.R_alloc | apply Kd.R_drewN | apply Kd.R_drew)); exact Kd.R_mono (Kd.R_far (p := ⟨gb277, 3, none⟩) (Kd.R_far (p := ⟨gb277, 2, none⟩) (Kd.R_far (p := ⟨gb277, 1, none⟩) (Kd.R_far (p := ⟨gb277, 0, none⟩) (Kd.R_mono HO_5.out (fun k_ hk => (⟨hk, hk.2⟩ : _ ∧ k_ ≠ gb277))) (fun _ hk => hk.2) (.int .i64 t272)) (fun _ hk => hk.2) (.int .i64 t273)) (fun _ hk => hk.2) (.int .i64 t274)) (fun _ hk => hk.2) (.int .i64 t275)) (fun _ hk => hk.1.2))); (case aS => exact (below_size hb_)); (case aL => have := LMc29.out; omega); intro v279 w31 ho hb hg hat; rw [← Ny278.out] at ho; replace HO_6 := Aside0.mk (Kd.R_over' Bd_12 (Kd.R_typed Bd_1) (by decide) hg); replace HO_20 := Aside0.mk (Kd.R_over' Bd_11 (Kd.R_typed Bd_1) (by decide) hg); replace BK277 := Aside0.mk (blk_grown (g := gb277) (o := .cells #[.int .i64 t272, .int .i64 t273, .int .i64 t274, .int .i64 t275] 29 (0, 0)) Bd_0 hg (Kd.R_away HO_5.out (fun _ hk => hk.2))); replace HB := Aside0.mk (hb); have HO280 := Aside0.mk (ho); clear HO_5; clear ho hb hg hat)); go_roundg kj12
            case measure => have := HK1.out; have := HJ12.out; omega
            case rel => exact ⟨(y278), (wrap64 (x22_1 + 1)), Bd_3, H', ⟨(by have := HK1.out; have := HJ12.out; omega)⟩, ⟨(by (with_reducible repeat (first | apply Kd.R_alloc | apply Kd.R_drewN | apply Kd.R_drew)); exact Kd.R_mono HO280.out (fun _ hk => trivial))⟩, ⟨Bd_9⟩, ⟨Bd_7⟩, ⟨hb_⟩⟩
           ·rw [if_neg c29] at H
            exact absurd H (by simp)
          ·replace c28 := Bool.eq_false_iff.mpr c28
           subst c28; rw [if_neg (show ¬ (false = true) by decide)] at H; obtain ⟨y281, hy281⟩ : ∃ y_ : List (S29), y_ = (([] : List (S29))) := ⟨_, rfl⟩; replace H : (some (y281, wrap64 (x22_1 + 1), false)) = some (r1, r2, r3) := by first | (rw [hy281]; with_reducible exact H) | (have H2_ := (Option.bind_some _ _).symm.trans H; rw [hy281]; with_reducible exact H2_) | (have H2_ := (Option.bind_some _ _).symm.trans H; with_reducible exact H2_) | with_reducible exact H | (rw [hy281]; exact H) | exact H
           have Ny281 := Aside0.mk hy281; clear hy281; simp only [Option.some.injEq, Prod.mk.injEq] at H; obtain ⟨rfl, rfl, rfl⟩ := H; go_wp2_with (first | ((with_reducible refine gate_dst (N := 52) rfl ?_); (try (refine gate_guard (by rfl) ?_; dsimp only)); refine Kd.R_lit k29 _ 29 ?hg (N := 52) ?hd (xs := ([] : List (S29))) (inner := []) (ok := fun _ => True) (okp := fun _ => True) ?hr ?hp (fun _ hk => hk) trivial (Below.refl _ _) (Nat.le_refl _) (by simp) ?_; (case hd => rfl); (case hg => rfl); (case hr => first | (go_simp; done) | (go_simp; rfl)); (case hp => exact (Reps.none _ _)); intro v282 w32 ho33 hb hg_ hnew_; clear hg_ hnew_; (first | rw [← Ny281.out] at ho33 | (simp only [Int.reduceToNat] at ho33; rw [← Ny281.out] at ho33)); replace HO_6 := Aside0.mk (Kd.R_below Bd_12 hb); replace HO_20 := Aside0.mk (Kd.R_below Bd_11 hb); have HO283 := Aside0.mk (Kd.R_lower (Kd.R_newB (Kd.R_new' ho33 (Kd.R_lt Bd_1)) (g := gb277) (o := .cells #[.int .i64 t272, .int .i64 t273, .int .i64 t274, .int .i64 t275] 29 (0, 0)) Bd_0) (below_size hb_)); replace HO_5 := Aside0.mk (Kd.R_elder' Bd_1 (Kd.R_base ho33) hb); replace BK277 := Aside0.mk (blk_below (g := gb277) (o := .cells #[.int .i64 t272, .int .i64 t273, .int .i64 t274, .int .i64 t275] 29 (0, 0)) Bd_0 hb); replace HB := Aside0.mk (below_step hb_ hb); clear hb ho33)); go_ret3
           exact ⟨_, Bd_5, (by (with_reducible repeat (first | apply Kd.R_alloc | apply Kd.R_drewN | apply Kd.R_drew)); exact Kd.R_mono HO283.out (fun _ hk => trivial)), hb_⟩
      ·rw [if_neg c11] at H
       exact absurd H (by simp)
     ·rw [if_neg c10] at H
      exact absurd H (by simp)
    ·rw [if_neg c9] at H
     have c9b0 : decide (x22_1 < (t260.length : Int)) = false := decide_eq_false c9; clear c9; by_cases c34 : (x5_1.length : Int) > 60
     ·rw [if_pos c34] at H
      have c34b0 : decide (60 < (x5_1.length : Int)) = true := decide_eq_true c34; have c34b1 : decide (60 < x5_1.length) = true := decide_eq_true (by omega); clear c34; obtain ⟨y263, hy263⟩ : ∃ y_ : List (S29), y_ = (([] : List (S29))) := ⟨_, rfl⟩; replace H : (some (y263, 0, false)) = some (r1, r2, r3) := by first | (rw [hy263]; with_reducible exact H) | (have H2_ := (Option.bind_some _ _).symm.trans H; rw [hy263]; with_reducible exact H2_) | (have H2_ := (Option.bind_some _ _).symm.trans H; with_reducible exact H2_) | with_reducible exact H | (rw [hy263]; exact H) | exact H
      have Ny263 := Aside0.mk hy263; clear hy263; simp only [Option.some.injEq, Prod.mk.injEq] at H; obtain ⟨rfl, rfl, rfl⟩ := H; obtain ⟨Ao35, co35, eo35⟩ := Kd.R_slice HO_5.out; subst eo35; go_wp2_with (first | ((with_reducible refine gate_dst (N := 63) rfl ?_); (try (refine gate_guard (by rfl) ?_; dsimp only)); refine Kd.R_lit k29 _ 29 ?hg (N := 63) ?hd (xs := ([] : List (S29))) (inner := []) (ok := fun _ => True) (okp := fun _ => True) ?hr ?hp (fun _ hk => hk) trivial (Below.refl _ _) (Nat.le_refl _) (by simp) ?_; (case hd => rfl); (case hg => rfl); (case hr => first | (go_simp; done) | (go_simp; rfl)); (case hp => exact (Reps.none _ _)); intro v264 w36 ho37 hb hg_ hnew_; clear hg_ hnew_; (first | rw [← Ny263.out] at ho37 | (simp only [Int.reduceToNat] at ho37; rw [← Ny263.out] at ho37)); replace HO_6 := Aside0.mk (Kd.R_below Bd_9 hb); replace HO_20 := Aside0.mk (Kd.R_below Bd_7 hb); have HO265 := Aside0.mk (Kd.R_lower (Kd.R_new' ho37 (Kd.R_lt Bd_2)) (below_size hb_)); replace HO_5 := Aside0.mk (Kd.R_elder' Bd_2 (Kd.R_base ho37) hb); replace HB := Aside0.mk (below_step hb_ hb); clear hb ho37)); go_ret3
      exact ⟨_, Bd_5, (by (with_reducible repeat (first | apply Kd.R_alloc | apply Kd.R_drewN | apply Kd.R_drew)); exact Kd.R_mono HO265.out (fun _ hk => trivial)), hb_⟩
     ·rw [if_neg c34] at H
      have c34b0 : decide (60 < (x5_1.length : Int)) = false := decide_eq_false c34; have c34b1 : decide (60 < x5_1.length) = false := decide_eq_false (by omega); clear c34; simp only [Option.some.injEq, Prod.mk.injEq] at H; obtain ⟨rfl, rfl, rfl⟩ := H; obtain ⟨Ao38, co38, eo38⟩ := Kd.R_slice HO_5.out; subst eo38; go_wp2; go_ret3
      exact ⟨_, Bd_5, Bd_2, hb_⟩
end Go.Proofs.Ytjmhhgnknjfnlaa.PFnEventsTold
namespace Go.Proofs.Ytjmhhgnknjfnlaa.PFnEventsTold
open Go.RowKit Go.Proofs.YtjmhhgnknjfnlaaW.PrintWords Go.Proofs.YtjmhhgnknjfnlaaW.PrintLast Go.Proofs.YtjmhhgnknjfnlaaW.PrintMore
attribute [local go_sem] max2_int min2_int max_two min_two max_three min_three max_four min_four
set_option linter.unusedVariables false
set_option linter.unusedSimpArgs false
attribute [local go_sem high] eqA29
def laws_sameEvents.l0 : Nat → List (S29) → List (S29) → Int → Option (Bool)
 | 0, _, _, _ => none
 | k + 1, x0, x1, x5 => if x5 < (x0.length : Int) then (if 0 ≤ x5 then (if x5 < (x1.length : Int) then (if (!(((rd_T29 x0 x5).f0) == ((rd_T29 x1 x5).f0)) || (!(((rd_T29 x0 x5).f1) == ((rd_T29 x1 x5).f1)) || (!(((rd_T29 x0 x5).f2) == ((rd_T29 x1 x5).f2)) || (!(((rd_T29 x0 x5).f3) == ((rd_T29 x1 x5).f3)))))) = true then (some false) else (laws_sameEvents.l0 k x0 x1 (wrap64 (x5 + 1)))) else (none)) else (none)) else (some true)
def laws_sameEvents.f (k : Nat) (l0 : List (S29)) (l1 : List (S29)) : Option (Bool) := if (l0.length : Int) = (l1.length : Int) then (laws_sameEvents.l0 k l0 l1 0) else (some false)
theorem laws_sameEvents.mono_l : ∀ k, (∀ y0 y1 y2, LeO (laws_sameEvents.l0 k y0 y1 y2) (laws_sameEvents.l0 (k + 1) y0 y1 y2))
 | 0 => fun _ _ _ r h => by simp [laws_sameEvents.l0] at h
 | k + 1 => by
  have ih0 := laws_sameEvents.mono_l k
  ·intro y0 y1 y2
   unfold laws_sameEvents.l0
   repeat' first
   | (with_reducible exact ih0 _ _ _)
   | (with_reducible exact LeO.refl _)
   | (with_reducible exact LeO.none _)
   | (with_reducible refine LeO.ite ?_ ?_)
   | (with_reducible refine LeO.bind ?_ (fun _ => ?_))
   | exact ih0 _ _ _
   | exact LeO.none _
   | refine LeO.ite ?_ ?_
   | refine LeO.bind ?_ (fun _ => ?_)
theorem laws_sameEvents.mono : ∀ a0 a1 k, LeO (laws_sameEvents.f k a0 a1) (laws_sameEvents.f (k + 1) a0 a1) := by
 intro a0 a1 k; have ih0 := laws_sameEvents.mono_l k; unfold laws_sameEvents.f
 repeat' first
   | (with_reducible exact ih0 _ _ _)
   | (with_reducible exact LeO.refl _)
   | (with_reducible exact LeO.none _)
   | (with_reducible refine LeO.ite ?_ ?_)
   | (with_reducible refine LeO.bind ?_ (fun _ => ?_))
   | exact ih0 _ _ _
   | exact LeO.none _
   | refine LeO.ite ?_ ?_
   | refine LeO.bind ?_ (fun _ => ?_)
set_option maxHeartbeats 8000000 in
set_option maxRecDepth 100000 in
theorem laws_sameEvents.calls (k : Nat) (A0 : Option Addr) (c0 : Nat) (l0 : List (S29)) (A1 : Option Addr) (c1 : Nat) (l1 : List (S29)) (r : Bool) (w : World) (hr0 : Kd.C k29 w A0 l0.length l0) (hc0 : l0.length ≤ c0) (hr1 : Kd.C k29 w A1 l1.length l1) (hc1 : l1.length ≤ c1) (h : laws_sameEvents.f k l0 l1 = some r) :
  Calls Try.prog 19 #[.slice A0 l0.length c0, .slice A1 l1.length c1] w fun e w' => e = .returned (.bool r) ∧ Drawn0 w w' := by
 have hu29 := Try.underlying29; have HR0 := Aside0.mk hr0; have HC0 := Aside0.mk hc0; clear hr0 hc0; have HR1 := Aside0.mk hr1; have HC1 := Aside0.mk hc1; clear hr1 hc1; have H : (if (l0.length : Int) = (l1.length : Int) then (laws_sameEvents.l0 k l0 l1 0) else (some false)) = some r := h; clear h; by_cases c3 : (l0.length : Int) = (l1.length : Int)
 ·rw [if_pos c3] at H
  have c3b0 : ((l0.length : Int) == (l1.length : Int)) = true := beq_iff_eq.mpr c3; have c3b1 : ((l0.length : Int) != (l1.length : Int)) = false := bne_eq_false_iff_eq.mpr c3; have c3b2 : (l0.length == l1.length) = true := by first | simpa using c3 | (simp at c3 ⊢; omega)
  clear c3; have H' := Aside0.mk H; clear H; go_enter Try.func19, Try.ntmps19; go_wp2
  repeat (go_quiet (fail); try go_wp2)
  go_loopg [5] k (fun kq v5 w' => ∃ (x5_1 : Int), v5 = .int .i64 x5_1 ∧ Aside0 (laws_sameEvents.l0 kq l0 l1 x5_1 = some r) ∧ Aside0 (kq ≤ k) ∧ Drawn0 w w')
  case atStart => exact ⟨(0), Bd_3, H', ⟨Nat.le_refl _⟩, Bd_15⟩
  case round =>
   clear H'; try clear c1; try clear p2; try clear c3; try clear c3b0; try clear c3b1; try clear c3b2
   obtain ⟨x5_1, rfl, HA, HK1, ⟨m1, rfl⟩⟩ := hrel; cases gk with
   | zero => exact absurd HA.out (by simp [laws_sameEvents.l0])
   | succ k1 =>
    have H := HA.out; clear HA; simp only [laws_sameEvents.l0] at H; by_cases c4 : x5_1 < (l0.length : Int)
    ·rw [if_pos c4] at H
     have c4b0 : decide (x5_1 < (l0.length : Int)) = true := decide_eq_true c4; clear c4; by_cases c5 : 0 ≤ x5_1
     ·rw [if_pos c5] at H
      have c5b0 : decide (0 ≤ x5_1) = true := decide_eq_true c5; clear c5; by_cases c6 : x5_1 < (l1.length : Int)
      ·rw [if_pos c6] at H
       have c6b0 : decide (x5_1 < (l1.length : Int)) = true := decide_eq_true c6; clear c6; by_cases c7 : (!(((rd_T29 l0 x5_1).f0) == ((rd_T29 l1 x5_1).f0)) || (!(((rd_T29 l0 x5_1).f1) == ((rd_T29 l1 x5_1).f1)) || (!(((rd_T29 l0 x5_1).f2) == ((rd_T29 l1 x5_1).f2)) || (!(((rd_T29 l0 x5_1).f3) == ((rd_T29 l1 x5_1).f3)))))) = true
       ·rw [if_pos c7] at H
        have c7b0 : (!(((rd_T29 l0 x5_1).f0) == ((rd_T29 l1 x5_1).f0)) || (!(((rd_T29 l0 x5_1).f1) == ((rd_T29 l1 x5_1).f1)) || (!(((rd_T29 l0 x5_1).f2) == ((rd_T29 l1 x5_1).f2)) || (!(((rd_T29 l0 x5_1).f3) == ((rd_T29 l1 x5_1).f3)))))) = true := c7; clear c7; obtain rfl := Option.some.inj H; have p284 : 0 ≤ (x5_1 : Int) := of_decide_eq_true Bd_4; have q284 : x5_1 < (l0.length : Int) := of_decide_eq_true Bd_4; obtain ⟨ad284, e284, hx284_0, hx284_1, hx284_2, hx284_3⟩ := at_T29 HR0.out x5_1 p284 q284; cases e284; replace p284 := eq_true p284; replace q284 := eq_true q284; have p285 : 0 ≤ (x5_1 : Int) := of_decide_eq_true Bd_4; have q285 : x5_1 < (l1.length : Int) := of_decide_eq_true Bd_4; obtain ⟨ad285, e285, hx285_0, hx285_1, hx285_2, hx285_3⟩ := at_T29 HR1.out x5_1 p285 q285; cases e285; replace p285 := eq_true p285; replace q285 := eq_true q285; go_wp2
        repeat (go_quiet (fail); try go_wp2)
        go_ret; exact ⟨Bd_3, Bd_15⟩
       ·rw [if_neg c7] at H
        have c7b0 : (!(((rd_T29 l0 x5_1).f0) == ((rd_T29 l1 x5_1).f0)) || (!(((rd_T29 l0 x5_1).f1) == ((rd_T29 l1 x5_1).f1)) || (!(((rd_T29 l0 x5_1).f2) == ((rd_T29 l1 x5_1).f2)) || (!(((rd_T29 l0 x5_1).f3) == ((rd_T29 l1 x5_1).f3)))))) = false := by simpa using c7
        clear c7; have H' := Aside0.mk H; clear H; have p284 : 0 ≤ (x5_1 : Int) := of_decide_eq_true Bd_4; have q284 : x5_1 < (l0.length : Int) := of_decide_eq_true Bd_4; obtain ⟨ad284, e284, hx284_0, hx284_1, hx284_2, hx284_3⟩ := at_T29 HR0.out x5_1 p284 q284; cases e284; replace p284 := eq_true p284; replace q284 := eq_true q284; have p285 : 0 ≤ (x5_1 : Int) := of_decide_eq_true Bd_4; have q285 : x5_1 < (l1.length : Int) := of_decide_eq_true Bd_4; obtain ⟨ad285, e285, hx285_0, hx285_1, hx285_2, hx285_3⟩ := at_T29 HR1.out x5_1 p285 q285; cases e285; replace p285 := eq_true p285; replace q285 := eq_true q285; go_wp2
        repeat (go_quiet (fail); try go_wp2)
        go_roundg k1
        case measure => have := HK1.out; omega
        case rel => exact ⟨(wrap64 (x5_1 + 1)), Bd_3, H', ⟨(by have := HK1.out; omega)⟩, Bd_15⟩
      ·rw [if_neg c6] at H
       exact absurd H (by simp)
     ·rw [if_neg c5] at H
      exact absurd H (by simp)
    ·rw [if_neg c4] at H
     have c4b0 : decide (x5_1 < (l0.length : Int)) = false := decide_eq_false c4; clear c4; obtain rfl := Option.some.inj H; go_wp2
     repeat (go_quiet (fail); try go_wp2)
     go_ret; exact ⟨Bd_3, Bd_15⟩
 ·rw [if_neg c3] at H
  have c3b0 : ((l0.length : Int) == (l1.length : Int)) = false := beq_eq_false_iff_ne.mpr c3; have c3b1 : ((l0.length : Int) != (l1.length : Int)) = true := bne_iff_ne.mpr c3; have c3b2 : (l0.length == l1.length) = false := by first | simpa using c3 | (simp at c3 ⊢; omega)
  obtain rfl := Option.some.inj H; go_enter Try.func19, Try.ntmps19; go_wp2
  repeat (go_quiet (fail); try go_wp2)
  go_ret; exact ⟨Bd_3, Bd_15⟩
end Go.Proofs.Ytjmhhgnknjfnlaa.PFnEventsTold
