-- functions and their walks: written by a program of this claim's
import Derived.Test.YtbjambmdononiaaProg
import Derived.Test.YtbjambmdononiaaVFnExactPictureParts
import Derived.Test.YtbjambmdononiaaZFnExactPicturePartsy0
import Derived.Test.YtbjambmdononiaaZFnExactPicturePartsy4
import Derived.Test.YtbjambmdononiaaZFnExactPicturePartsy6
namespace Go.Proofs.Ytbjambmdononiaa.PFnExactPictureParts
open Go.RowKit Go.Proofs.YtbjambmdononiaaW.PrintWords Go.Proofs.YtbjambmdononiaaW.PrintLast Go.Proofs.YtbjambmdononiaaW.PrintMore
attribute [local go_sem] max2_int min2_int max_two min_two max_three min_three max_four min_four
set_option linter.unusedVariables false
set_option linter.unusedSimpArgs false
theorem Bh_0 {P : Prop} (h : P := by (with_reducible repeat (first | refine blk_drewN ?_ _ | refine blk_drew ?_ | refine blk_alloc ?_ _)); refine blk_put (cs := #[.bool t363, .int .i64 t364, .string (⟨#[]⟩ : ByteArray)]) ?_ 2 _ rfl; (with_reducible repeat (first | refine blk_drewN ?_ _ | refine blk_drew ?_ | refine blk_alloc ?_ _)); refine blk_put (cs := #[.bool t363, .int .i64 0, .string (⟨#[]⟩ : ByteArray)]) ?_ 1 _ rfl; (with_reducible repeat (first | refine blk_drewN ?_ _ | refine blk_drew ?_ | refine blk_alloc ?_ _)); refine blk_put (cs := #[.bool false, .int .i64 0, .string (⟨#[]⟩ : ByteArray)]) ?_ 0 _ rfl; (with_reducible repeat (first | refine blk_drewN ?_ _ | refine blk_drew ?_ | refine blk_alloc ?_ _)); refine blk_far ?_ NB368_367.out _; (with_reducible repeat (first | refine blk_drewN ?_ _ | refine blk_drew ?_ | refine blk_alloc ?_ _)); refine blk_far ?_ NB368_367.out _; (with_reducible repeat (first | refine blk_drewN ?_ _ | refine blk_drew ?_ | refine blk_alloc ?_ _)); refine blk_far ?_ NB368_367.out _; (with_reducible repeat (first | refine blk_drewN ?_ _ | refine blk_drew ?_ | refine blk_alloc ?_ _)); exact BK368.out) : P := h
theorem Bh_1 {P : Prop} (h : P := by (with_reducible repeat (first | refine blk_drewN ?_ _ | refine blk_drew ?_ | refine blk_alloc ?_ _)); refine blk_far ?_ NB367_368.out _; (with_reducible repeat (first | refine blk_drewN ?_ _ | refine blk_drew ?_ | refine blk_alloc ?_ _)); refine blk_far ?_ NB367_368.out _; (with_reducible repeat (first | refine blk_drewN ?_ _ | refine blk_drew ?_ | refine blk_alloc ?_ _)); refine blk_far ?_ NB367_368.out _; (with_reducible repeat (first | refine blk_drewN ?_ _ | refine blk_drew ?_ | refine blk_alloc ?_ _)); refine blk_put (cs := #[.int .i64 t360, .int .i64 t361, .int .i64 0]) ?_ 2 _ rfl; (with_reducible repeat (first | refine blk_drewN ?_ _ | refine blk_drew ?_ | refine blk_alloc ?_ _)); refine blk_put (cs := #[.int .i64 t360, .int .i64 0, .int .i64 0]) ?_ 1 _ rfl; (with_reducible repeat (first | refine blk_drewN ?_ _ | refine blk_drew ?_ | refine blk_alloc ?_ _)); refine blk_put (cs := #[.int .i64 0, .int .i64 0, .int .i64 0]) ?_ 0 _ rfl; (with_reducible repeat (first | refine blk_drewN ?_ _ | refine blk_drew ?_ | refine blk_alloc ?_ _)); exact BK367.out) : P := h
theorem Bh_2 {P : Prop} (h : P := by (with_reducible repeat (first | apply Kd.R_alloc | apply Kd.R_drewN | apply Kd.R_drew)); exact (Kd.R_mono (Kd.R_mono (Kd.R_far (p := ⟨gb368, 2, none⟩) (Kd.R_far (p := ⟨gb368, 1, none⟩) (Kd.R_far (p := ⟨gb368, 0, none⟩) (Kd.R_far (p := ⟨gb367, 2, none⟩) (Kd.R_far (p := ⟨gb367, 1, none⟩) (Kd.R_far (p := ⟨gb367, 0, none⟩) (Kd.R_mono (Kd.R_types HO_9.out BK367.out (by decide)) (fun k_ hk => (⟨hk, hk.1.2⟩ : _ ∧ k_ ≠ gb368))) (fun _ hk => hk.1.2) (.int .i64 t360)) (fun _ hk => hk.1.2) (.int .i64 t361)) (fun _ hk => hk.1.2) (.int .i64 t362)) (fun _ hk => hk.2) (.bool t363)) (fun _ hk => hk.2) (.int .i64 t364)) (fun _ hk => hk.2) (.string t365)) (fun _ h_ => h_.1)) (fun _ h_ => h_.1))) : P := h
theorem Bh_3 {P : Prop} (h : P := by first | rfl | (simp [errW_none, errW_some] <;> rfl) | (simp [*, errW_none, errW_some] <;> rfl)) : P := h
theorem Bh_4 {P : Prop} (h : P := by first | (with_reducible assumption) | assumption) : P := h
theorem Bh_5 {P : Prop} (h : P := by first | rfl | (simp; done) | (simp [*]; done)) : P := h
theorem Bh_6 {P : Prop} (h : P := by (with_reducible repeat (first | refine blk_drewN ?_ _ | refine blk_drew ?_ | refine blk_alloc ?_ _)); refine blk_far ?_ NB351_368.out _; (with_reducible repeat (first | refine blk_drewN ?_ _ | refine blk_drew ?_ | refine blk_alloc ?_ _)); refine blk_far ?_ NB351_368.out _; (with_reducible repeat (first | refine blk_drewN ?_ _ | refine blk_drew ?_ | refine blk_alloc ?_ _)); refine blk_far ?_ NB351_368.out _; (with_reducible repeat (first | refine blk_drewN ?_ _ | refine blk_drew ?_ | refine blk_alloc ?_ _)); refine blk_far ?_ NB351_367.out _; (with_reducible repeat (first | refine blk_drewN ?_ _ | refine blk_drew ?_ | refine blk_alloc ?_ _)); refine blk_far ?_ NB351_367.out _; (with_reducible repeat (first | refine blk_drewN ?_ _ | refine blk_drew ?_ | refine blk_alloc ?_ _)); refine blk_far ?_ NB351_367.out _; (with_reducible repeat (first | refine blk_drewN ?_ _ | refine blk_drew ?_ | refine blk_alloc ?_ _)); exact BK351.out) : P := h
theorem Bh_7 {P : Prop} (h : P := by (with_reducible repeat (first | refine blk_drewN ?_ _ | refine blk_drew ?_ | refine blk_alloc ?_ _)); refine blk_far ?_ NB352_368.out _; (with_reducible repeat (first | refine blk_drewN ?_ _ | refine blk_drew ?_ | refine blk_alloc ?_ _)); refine blk_far ?_ NB352_368.out _; (with_reducible repeat (first | refine blk_drewN ?_ _ | refine blk_drew ?_ | refine blk_alloc ?_ _)); refine blk_far ?_ NB352_368.out _; (with_reducible repeat (first | refine blk_drewN ?_ _ | refine blk_drew ?_ | refine blk_alloc ?_ _)); refine blk_far ?_ NB352_367.out _; (with_reducible repeat (first | refine blk_drewN ?_ _ | refine blk_drew ?_ | refine blk_alloc ?_ _)); refine blk_far ?_ NB352_367.out _; (with_reducible repeat (first | refine blk_drewN ?_ _ | refine blk_drew ?_ | refine blk_alloc ?_ _)); refine blk_far ?_ NB352_367.out _; (with_reducible repeat (first | refine blk_drewN ?_ _ | refine blk_drew ?_ | refine blk_alloc ?_ _)); exact BK352.out) : P := h
theorem Bh_8 {P : Prop} (h : P := by (with_reducible repeat (first | apply Kd.R_alloc | apply Kd.R_drewN | apply Kd.R_drew)); exact HO355.out) : P := h
theorem Bh_9 {P : Prop} (h : P := by (with_reducible repeat (first | apply Kd.R_alloc | apply Kd.R_drewN | apply Kd.R_drew)); exact Kd.R_mono (Kd.R_far (p := ⟨gb368, 2, none⟩) (Kd.R_far (p := ⟨gb368, 1, none⟩) (Kd.R_far (p := ⟨gb368, 0, none⟩) (Kd.R_far (p := ⟨gb367, 2, none⟩) (Kd.R_far (p := ⟨gb367, 1, none⟩) (Kd.R_far (p := ⟨gb367, 0, none⟩) (Kd.R_mono (Kd.R_types HO_9.out BK367.out (by decide)) (fun k_ hk => (⟨hk, hk.1.2⟩ : _ ∧ k_ ≠ gb368))) (fun _ hk => hk.1.2) (.int .i64 t360)) (fun _ hk => hk.1.2) (.int .i64 t361)) (fun _ hk => hk.1.2) (.int .i64 t362)) (fun _ hk => hk.2) (.bool t363)) (fun _ hk => hk.2) (.int .i64 t364)) (fun _ hk => hk.2) (.string t365)) (fun _ hk => hk.1.1.2)) : P := h
theorem Bh_10 {P : Prop} (h : P := by (with_reducible repeat (first | refine blk_drewN ?_ _ | refine blk_drew ?_ | refine blk_alloc ?_ _)); exact BK351.out) : P := h
theorem Bh_11 {P : Prop} (h : P := by (with_reducible repeat (first | refine blk_drewN ?_ _ | refine blk_drew ?_ | refine blk_alloc ?_ _)); exact BK352.out) : P := h
theorem Bh_12 {P : Prop} (h : P := by (with_reducible repeat (first | apply Kd.R_alloc | apply Kd.R_drewN | apply Kd.R_drew)); exact HO_9.out) : P := h
theorem Bh_13 {P : Prop} (h : P := by repeat (first | exact Drawn0.refl _ | apply Drawn0.step)) : P := h
theorem Bh_14 {P : Prop} (h : P := by repeat (first | (with_reducible first | exact HK.out | apply Kept.alloc | apply Kept.drewN | apply Kept.drew) | exact HK.out)) : P := h
theorem Bh_15 {P : Prop} (h : P := by (with_reducible repeat (first | apply Kd.R_alloc | apply Kd.R_drewN | apply Kd.R_drew)); exact HO_0.out) : P := h
mutual
def impl_PictureParts.j0 : Nat → List ByteArray → List (S112) → Int → Bool → Int → Int → List Int → List Int → Int → Bool → Bool → Bool → Option ((List (S112)) × Int × Bool)
 | 0, _, _, _, _, _, _, _, _, _, _, _, _ => none
 | k + 1, x2, x9, x10, x31, x352000, x352001, x352002, x352003, x353000, x353001, x353002, x353003 => if x31 = true then (some (x9, 0, false)) else (impl_PictureParts.l0 k x9 x10 x2 (x2.length : Int) 0 x352000 x352001 x352002 x352003 x353000 x353001 x353002 x353003)
def impl_PictureParts.l0 : Nat → List (S112) → Int → List ByteArray → Int → Int → Int → Int → List Int → List Int → Int → Bool → Bool → Bool → Option ((List (S112)) × Int × Bool)
 | 0, _, _, _, _, _, _, _, _, _, _, _, _, _ => none
 | k + 1, x9, x10, x33, x34, x35, x352000, x352001, x352002, x352003, x353000, x353001, x353002, x353003 => if x35 < x34 then (if 0 ≤ x35 then (if x35 < (x33.length : Int) then ((impl_PartIn.f k x352000 x352001 x352002 x352003 x353000 x353001 x353002 x353003 (rdOf ByteArray.empty x33 x35)).bind fun bt360 => (if x35 = 0 then (if bt360.2.2.2.2.2.2 = true then (if bt360.1 = x35 then (if x9.length < 4398046511104 then (impl_PictureParts.l0 k (x9 ++ [(⟨bt360.2.2.2.1, bt360.2.2.2.2.1, bt360.2.2.2.2.2.1⟩ : S112)]) bt360.2.1 x33 x34 (wrap64 (x35 + 1)) x352000 x352001 x352002 x352003 x353000 x353001 x353002 x353003) else (none)) else (some ((([] : List (S112))), 0, false))) else (some ((([] : List (S112))), 0, false))) else (if bt360.2.2.2.2.2.2 = true then (if bt360.1 = x35 then (if bt360.2.1 = x10 then (if x9.length < 4398046511104 then (impl_PictureParts.l0 k (x9 ++ [(⟨bt360.2.2.2.1, bt360.2.2.2.2.1, bt360.2.2.2.2.2.1⟩ : S112)]) x10 x33 x34 (wrap64 (x35 + 1)) x352000 x352001 x352002 x352003 x353000 x353001 x353002 x353003) else (none)) else (some ((([] : List (S112))), 0, false))) else (some ((([] : List (S112))), 0, false))) else (some ((([] : List (S112))), 0, false))))) else (none)) else (none)) else (some (x9, x10, true))
end
def impl_PictureParts.f (k : Nat) (a0_0 : Int) (a0_1 : Int) (l0_2 : List Int) (l0_3 : List Int) (a1_0 : Int) (a1_1 : Bool) (a1_2 : Bool) (a1_3 : Bool) (l2 : List ByteArray) : Option ((List (S112)) × Int × Bool) := (some (([] : List (S112)) : List (S112))).bind fun y353 => ((impl_SeqOk.f k a0_0 a0_1 l0_2 l0_3).bind fun t356 => (if t356 = true then ((impl_ParOk.f a1_0 a1_1 a1_2 a1_3).bind fun t357 => (if t357 = true then ((impl_TilesOf.f k a0_0 a0_1 l0_2 l0_3).bind fun t358 => (impl_PictureParts.j0 k l2 y353 0 ((l2.length : Int) != t358) a0_0 a0_1 l0_2 l0_3 a1_0 a1_1 a1_2 a1_3)) else (impl_PictureParts.j0 k l2 y353 0 true a0_0 a0_1 l0_2 l0_3 a1_0 a1_1 a1_2 a1_3))) else (impl_PictureParts.j0 k l2 y353 0 true a0_0 a0_1 l0_2 l0_3 a1_0 a1_1 a1_2 a1_3)))
theorem impl_PictureParts.mono_l : ∀ k, (∀ y0 y1 y2 y3 y4 y5 y6 y7 y8 y9 y10 y11, LeO (impl_PictureParts.j0 k y0 y1 y2 y3 y4 y5 y6 y7 y8 y9 y10 y11) (impl_PictureParts.j0 (k + 1) y0 y1 y2 y3 y4 y5 y6 y7 y8 y9 y10 y11)) ∧ (∀ y0 y1 y2 y3 y4 y5 y6 y7 y8 y9 y10 y11 y12, LeO (impl_PictureParts.l0 k y0 y1 y2 y3 y4 y5 y6 y7 y8 y9 y10 y11 y12) (impl_PictureParts.l0 (k + 1) y0 y1 y2 y3 y4 y5 y6 y7 y8 y9 y10 y11 y12))
 | 0 => ⟨fun _ _ _ _ _ _ _ _ _ _ _ _ r h => by simp [impl_PictureParts.j0] at h, fun _ _ _ _ _ _ _ _ _ _ _ _ _ r h => by simp [impl_PictureParts.l0] at h⟩
 | k + 1 => by
  obtain ⟨ih0, ih1⟩ := impl_PictureParts.mono_l k; refine ⟨?_, ?_⟩
  ·intro y0 y1 y2 y3 y4 y5 y6 y7 y8 y9 y10 y11
   unfold impl_PictureParts.j0
   repeat' first
   | (with_reducible exact ih0 _ _ _ _ _ _ _ _ _ _ _ _)
   | (with_reducible exact ih1 _ _ _ _ _ _ _ _ _ _ _ _ _)
   | (with_reducible exact impl_PartIn.mono _ _ _ _ _ _ _ _ _ _)
   | (with_reducible exact impl_SeqOk.mono _ _ _ _ _)
   | (with_reducible exact impl_TilesOf.mono _ _ _ _ _)
   | (with_reducible exact LeO.refl _)
   | (with_reducible exact LeO.none _)
   | (with_reducible refine LeO.ite ?_ ?_)
   | (with_reducible refine LeO.bind ?_ (fun _ => ?_))
   | exact ih0 _ _ _ _ _ _ _ _ _ _ _ _
   | exact ih1 _ _ _ _ _ _ _ _ _ _ _ _ _
   | exact impl_PartIn.mono _ _ _ _ _ _ _ _ _ _
   | exact impl_SeqOk.mono _ _ _ _ _
   | exact impl_TilesOf.mono _ _ _ _ _
   | exact LeO.none _
   | refine LeO.ite ?_ ?_
   | refine LeO.bind ?_ (fun _ => ?_)
  ·intro y0 y1 y2 y3 y4 y5 y6 y7 y8 y9 y10 y11 y12
   unfold impl_PictureParts.l0
   repeat' first
   | (with_reducible exact ih0 _ _ _ _ _ _ _ _ _ _ _ _)
   | (with_reducible exact ih1 _ _ _ _ _ _ _ _ _ _ _ _ _)
   | (with_reducible exact impl_PartIn.mono _ _ _ _ _ _ _ _ _ _)
   | (with_reducible exact impl_SeqOk.mono _ _ _ _ _)
   | (with_reducible exact impl_TilesOf.mono _ _ _ _ _)
   | (with_reducible exact LeO.refl _)
   | (with_reducible exact LeO.none _)
   | (with_reducible refine LeO.ite ?_ ?_)
   | (with_reducible refine LeO.bind ?_ (fun _ => ?_))
   | exact ih0 _ _ _ _ _ _ _ _ _ _ _ _
   | exact ih1 _ _ _ _ _ _ _ _ _ _ _ _ _
   | exact impl_PartIn.mono _ _ _ _ _ _ _ _ _ _
   | exact impl_SeqOk.mono _ _ _ _ _
   | exact impl_TilesOf.mono _ _ _ _ _
   | exact LeO.none _
   | refine LeO.ite ?_ ?_
   | refine LeO.bind ?_ (fun _ => ?_)
theorem impl_PictureParts.mono : ∀ a0 a1 a2 a3 a4 a5 a6 a7 a8 k, LeO (impl_PictureParts.f k a0 a1 a2 a3 a4 a5 a6 a7 a8) (impl_PictureParts.f (k + 1) a0 a1 a2 a3 a4 a5 a6 a7 a8) := by
 intro a0 a1 a2 a3 a4 a5 a6 a7 a8 k; obtain ⟨ih0, ih1⟩ := impl_PictureParts.mono_l k; unfold impl_PictureParts.f
 repeat' first
   | (with_reducible exact ih0 _ _ _ _ _ _ _ _ _ _ _ _)
   | (with_reducible exact ih1 _ _ _ _ _ _ _ _ _ _ _ _ _)
   | (with_reducible exact impl_PartIn.mono _ _ _ _ _ _ _ _ _ _)
   | (with_reducible exact impl_SeqOk.mono _ _ _ _ _)
   | (with_reducible exact impl_TilesOf.mono _ _ _ _ _)
   | (with_reducible exact LeO.refl _)
   | (with_reducible exact LeO.none _)
   | (with_reducible refine LeO.ite ?_ ?_)
   | (with_reducible refine LeO.bind ?_ (fun _ => ?_))
   | exact ih0 _ _ _ _ _ _ _ _ _ _ _ _
   | exact ih1 _ _ _ _ _ _ _ _ _ _ _ _ _
   | exact impl_PartIn.mono _ _ _ _ _ _ _ _ _ _
   | exact impl_SeqOk.mono _ _ _ _ _
   | exact impl_TilesOf.mono _ _ _ _ _
   | exact LeO.none _
   | refine LeO.ite ?_ ?_
   | refine LeO.bind ?_ (fun _ => ?_)
set_option maxHeartbeats 8000000 in
set_option maxRecDepth 100000 in
theorem impl_PictureParts.calls (k : Nat) (a0_0 : Int) (a0_1 : Int) (A0_2 : Option Addr) (c0_2 : Nat) (l0_2 : List Int) (A0_3 : Option Addr) (c0_3 : Nat) (l0_3 : List Int) (a1_0 : Int) (a1_1 : Bool) (a1_2 : Bool) (a1_3 : Bool) (A2 : Option Addr) (c2 : Nat) (l2 : List ByteArray) (r1 : List (S112)) (r2 : Int) (r3 : Bool) (w : World) (hr0_2 : Kd.C (Kd.int .i64) w A0_2 l0_2.length l0_2) (hc0_2 : l0_2.length ≤ c0_2) (hr0_3 : Kd.C (Kd.int .i64) w A0_3 l0_3.length l0_3) (hc0_3 : l0_3.length ≤ c0_3) (hr2 : Kd.C Kd.string w A2 l2.length l2) (hc2 : l2.length ≤ c2) (h : impl_PictureParts.f k a0_0 a0_1 l0_2 l0_3 a1_0 a1_1 a1_2 a1_3 l2 = some (r1, r2, r3)) :
  Calls Try.prog 21 #[.agg #[.int .i64 a0_0, .int .i64 a0_1, .slice A0_2 l0_2.length c0_2, .slice A0_3 l0_3.length c0_3], .agg #[.int .i64 a1_0, .bool a1_1, .bool a1_2, .bool a1_3], .slice A2 l2.length c2] w fun e w' => ∃ v0_ : Value, e = .returned (.tuple #[v0_, .int .i64 r2, .bool r3]) ∧ Kd.R k112 112 w' w.heap.size (fun _ => True) v0_ r1 ∧ Below w.heap.size w w' := by
 have hu33 := Try.underlying33; have hu35 := Try.underlying35; have hu135 := Try.underlying135; have hu112 := Try.underlying112; have HR0_2 := Aside0.mk hr0_2; have HC0_2 := Aside0.mk hc0_2; clear hr0_2 hc0_2; have HR0_3 := Aside0.mk hr0_3; have HC0_3 := Aside0.mk hc0_3; clear hr0_3 hc0_3; have HR2 := Aside0.mk hr2; have HC2 := Aside0.mk hc2; clear hr2 hc2; have HB := Aside0.mk (Below.refl w.heap.size w); have H : ((some (([] : List (S112)) : List (S112))).bind fun y353 => ((impl_SeqOk.f k a0_0 a0_1 l0_2 l0_3).bind fun t356 => (if t356 = true then ((impl_ParOk.f a1_0 a1_1 a1_2 a1_3).bind fun t357 => (if t357 = true then ((impl_TilesOf.f k a0_0 a0_1 l0_2 l0_3).bind fun t358 => (impl_PictureParts.j0 k l2 y353 0 ((l2.length : Int) != t358) a0_0 a0_1 l0_2 l0_3 a1_0 a1_1 a1_2 a1_3)) else (impl_PictureParts.j0 k l2 y353 0 true a0_0 a0_1 l0_2 l0_3 a1_0 a1_1 a1_2 a1_3))) else (impl_PictureParts.j0 k l2 y353 0 true a0_0 a0_1 l0_2 l0_3 a1_0 a1_1 a1_2 a1_3)))) = some (r1, r2, r3) := h; clear h; obtain ⟨y353, hy353⟩ : ∃ y_ : List (S112), y_ = (([] : List (S112))) := ⟨_, rfl⟩; replace H : ((impl_SeqOk.f k a0_0 a0_1 l0_2 l0_3).bind fun t356 => (if t356 = true then ((impl_ParOk.f a1_0 a1_1 a1_2 a1_3).bind fun t357 => (if t357 = true then ((impl_TilesOf.f k a0_0 a0_1 l0_2 l0_3).bind fun t358 => (impl_PictureParts.j0 k l2 y353 0 ((l2.length : Int) != t358) a0_0 a0_1 l0_2 l0_3 a1_0 a1_1 a1_2 a1_3)) else (impl_PictureParts.j0 k l2 y353 0 true a0_0 a0_1 l0_2 l0_3 a1_0 a1_1 a1_2 a1_3))) else (impl_PictureParts.j0 k l2 y353 0 true a0_0 a0_1 l0_2 l0_3 a1_0 a1_1 a1_2 a1_3))) = some (r1, r2, r3) := by first | (rw [hy353]; with_reducible exact H) | (have H2_ := (Option.bind_some _ _).symm.trans H; rw [hy353]; with_reducible exact H2_) | (have H2_ := (Option.bind_some _ _).symm.trans H; with_reducible exact H2_) | with_reducible exact H | (rw [hy353]; exact H) | exact H
 have Ny353 := Aside0.mk hy353; clear hy353; have HC4 := Aside0.mk H; clear H; go_enter Try.func21, Try.ntmps21; go_upto_region 3 with (first | ((with_reducible refine gate_dst (N := 3) rfl ?_); (try (refine gate_guard (by rfl) ?_; dsimp only)); refine box_event ?hg (N := 3) ?hd (cs := #[.int .i64 a0_0, .int .i64 a0_1, .slice A0_2 l0_2.length c0_2, .slice A0_3 l0_3.length c0_3]) (t := 33) ?hr ?_; (case hd => rfl); (case hg => rfl); (case hr => first | (go_simp; done) | (go_simp; rfl)); intro gb351 hg w5 hbox hb; have BK351 := Aside0.mk (hbox); have GW351 := gw_ hg hb_; have GE351 := gw_ hg hb_; replace HB := Aside0.mk (below_step hb_ hb); clear hb hbox hg) | ((with_reducible refine gate_dst (N := 4) rfl ?_); (try (refine gate_guard (by rfl) ?_; dsimp only)); refine box_event ?hg (N := 4) ?hd (cs := #[.int .i64 a1_0, .bool a1_1, .bool a1_2, .bool a1_3]) (t := 35) ?hr ?_; (case hd => rfl); (case hg => rfl); (case hr => first | (go_simp; done) | (go_simp; rfl)); intro gb352 hg w6 hbox hb; have BK352 := Aside0.mk (hbox); have GW352 := gw_ hg hb_; have GE352 := gw_ hg hb_; replace HB := Aside0.mk (below_step hb_ hb); obtain ⟨NB351_352, NB352_351, BK351⟩ := nb_ hg hb BK351; clear hb hbox hg) | ((with_reducible refine gate_dst (N := 16) rfl ?_); (try (refine gate_guard (by rfl) ?_; dsimp only)); refine Kd.R_lit k112 _ 112 ?hg (N := 16) ?hd (xs := ([] : List (S112))) (inner := []) (ok := fun _ => True) (okp := fun _ => True) ?hr ?hp (fun _ hk => hk) trivial (Below.refl _ _) (Nat.le_refl _) (by simp) ?_; (case hd => rfl); (case hg => rfl); (case hr => first | (go_simp; done) | (go_simp; rfl)); (case hp => exact (Reps.none _ _)); intro v354 w7 ho8 hb hg_ hnew_; clear hg_ hnew_; (first | rw [← Ny353.out] at ho8 | (simp only [Int.reduceToNat] at ho8; rw [← Ny353.out] at ho8)); have HO355 := Aside0.mk (Kd.R_lower ho8 (below_size hb_)); replace BK351 := bb_ BK351 hb; replace BK352 := bb_ BK352 hb; replace HB := Aside0.mk (below_step hb_ hb); clear hb ho8))
 (try simp only [Act.put, List.setIfInBounds_toArray, List.set_cons_zero, List.set_cons_succ]); go_cut [31] (fun v31 wc => ∃ (kq : Nat) (x31_3 : Bool), v31 = .bool x31_3 ∧ Aside0 (impl_PictureParts.j0 kq l2 y353 0 x31_3 a0_0 a0_1 l0_2 l0_3 a1_0 a1_1 a1_2 a1_3 = some (r1, r2, r3)) ∧ Aside0 (kq ≤ k) ∧ Aside0 (Kd.R k112 112 wc w.heap.size (fun _ => True) v354 y353) ∧ Aside0 (wc.heap[gb351]? = some (.cells #[.int .i64 a0_0, .int .i64 a0_1, (.slice A0_2 l0_2.length c0_2), (.slice A0_3 l0_3.length c0_3)] 33 (0, 0))) ∧ Aside0 (wc.heap[gb352]? = some (.cells #[.int .i64 a1_0, .bool a1_1, .bool a1_2, .bool a1_3] 35 (0, 0))) ∧ Aside0 (Below w.heap.size w wc))
 case first =>
  have H := HC4.out; clear HC4; replace H := Option.bind_eq_some_iff.mp H; obtain ⟨t356, A90, H⟩ := H; try dsimp only at H
  have A9 := Aside0.mk A90; clear A90; by_cases c10 : t356 = true
  ·subst c10
   rw [if_pos rfl] at H; replace H := Option.bind_eq_some_iff.mp H; obtain ⟨t357, A110, H⟩ := H; try dsimp only at H
   have A11 := Aside0.mk A110; clear A110; by_cases c12 : t357 = true
   ·subst c12
    rw [if_pos rfl] at H; replace H := Option.bind_eq_some_iff.mp H; obtain ⟨t358, A130, H⟩ := H; try dsimp only at H
    have A13 := Aside0.mk A130; clear A130; have H' := Aside0.mk H; clear H; have hnb14 := NB351_352.out; have hnc14 := NB352_351.out; have hz15 := bc4_ BK351.out; go_wp2_with (first | ((with_reducible refine gate_callee (f := 77) rfl ?_); refine gA_ (some 18) Try.func77 (impl_SeqOk.calls _ _ _ _ _ _ _ _ _ _ _ ?side1 ?side2 ?side3 ?side4 A9.out) ?_; (case side1 => repeat (first | exact (Kd.C_below HR0_2.out HB.out) | (with_reducible refine Kd.C_alloc ?_ _) | (with_reducible refine Kd.C_drewN ?_ _) | (with_reducible refine Kd.C_drew ?_))); (case side2 => exact HC0_2.out); (case side3 => repeat (first | exact (Kd.C_below HR0_3.out HB.out) | (with_reducible refine Kd.C_alloc ?_ _) | (with_reducible refine Kd.C_drewN ?_ _) | (with_reducible refine Kd.C_drew ?_))); (case side4 => exact HC0_3.out); rintro e w16 ⟨rfl, hb⟩; refine ⟨_, rfl, ?_⟩; replace HO355 := Aside0.mk (Kd.R_below Bh_8 hb); replace BK351 := bb_ BK351 hb; replace BK352 := bb_ BK352 hb; replace HB := Aside0.mk (below_step hb_ hb); (try clear hb); (try clear hb2); (try clear hk); (try clear hi); have hz17 := bc4_ BK352.out) | (go_at_call 78; (with_reducible refine (impl_ParOk.calls a1_0 a1_1 a1_2 a1_3 true _ A11.out).mono ?_); rintro e w18 ⟨rfl, hb⟩; replace HO355 := Aside0.mk (Kd.R_below Bh_8 hb); replace BK351 := bb_ BK351 hb; replace BK352 := bb_ BK352 hb; replace HB := Aside0.mk (below_step hb_ hb); (try clear hb); (try clear hb2); (try clear hk); (try clear hi); have hz19 := bc4_ BK351.out) | (go_at_call 79; (with_reducible refine (impl_TilesOf.calls k a0_0 a0_1 _ _ l0_2 _ _ l0_3 t358 _ ?side1 ?side2 ?side3 ?side4 A13.out).mono ?_); (case side1 => repeat (first | exact (Kd.C_below HR0_2.out HB.out) | (with_reducible refine Kd.C_alloc ?_ _) | (with_reducible refine Kd.C_drewN ?_ _) | (with_reducible refine Kd.C_drew ?_))); (case side2 => exact HC0_2.out); (case side3 => repeat (first | exact (Kd.C_below HR0_3.out HB.out) | (with_reducible refine Kd.C_alloc ?_ _) | (with_reducible refine Kd.C_drewN ?_ _) | (with_reducible refine Kd.C_drew ?_))); (case side4 => exact HC0_3.out); rintro e w20 ⟨rfl, hb⟩; replace HO355 := Aside0.mk (Kd.R_below Bh_8 hb); replace BK351 := bb_ BK351 hb; replace BK352 := bb_ BK352 hb; replace HB := Aside0.mk (below_step hb_ hb); (try clear hb); (try clear hb2); (try clear hk); (try clear hi))); go_meet
    case rel => exact ⟨_, (((l2.length : Int) != t358)), Bh_5, H', ⟨(by first | omega | exact Nat.le_refl _)⟩, ⟨Bh_8⟩, ⟨Bh_10⟩, ⟨Bh_11⟩, ⟨hb_⟩⟩
   ·replace c12 := Bool.eq_false_iff.mpr c12
    subst c12; rw [if_neg (show ¬ (false = true) by decide)] at H; have H' := Aside0.mk H; clear H; have hnb21 := NB351_352.out; have hnc21 := NB352_351.out; have hz22 := bc4_ BK351.out; go_wp2_with (first | ((with_reducible refine gate_callee (f := 77) rfl ?_); refine gA_ (some 18) Try.func77 (impl_SeqOk.calls _ _ _ _ _ _ _ _ _ _ _ ?side1 ?side2 ?side3 ?side4 A9.out) ?_; (case side1 => repeat (first | exact (Kd.C_below HR0_2.out HB.out) | (with_reducible refine Kd.C_alloc ?_ _) | (with_reducible refine Kd.C_drewN ?_ _) | (with_reducible refine Kd.C_drew ?_))); (case side2 => exact HC0_2.out); (case side3 => repeat (first | exact (Kd.C_below HR0_3.out HB.out) | (with_reducible refine Kd.C_alloc ?_ _) | (with_reducible refine Kd.C_drewN ?_ _) | (with_reducible refine Kd.C_drew ?_))); (case side4 => exact HC0_3.out); rintro e w23 ⟨rfl, hb⟩; refine ⟨_, rfl, ?_⟩; replace HO355 := Aside0.mk (Kd.R_below Bh_8 hb); replace BK351 := bb_ BK351 hb; replace BK352 := bb_ BK352 hb; replace HB := Aside0.mk (below_step hb_ hb); (try clear hb); (try clear hb2); (try clear hk); (try clear hi); have hz24 := bc4_ BK352.out) | (go_at_call 78; (with_reducible refine (impl_ParOk.calls a1_0 a1_1 a1_2 a1_3 false _ A11.out).mono ?_); rintro e w25 ⟨rfl, hb⟩; replace HO355 := Aside0.mk (Kd.R_below Bh_8 hb); replace BK351 := bb_ BK351 hb; replace BK352 := bb_ BK352 hb; replace HB := Aside0.mk (below_step hb_ hb); (try clear hb); (try clear hb2); (try clear hk); (try clear hi))); go_meet
    case rel => exact ⟨_, (true), Bh_5, H', ⟨(by first | omega | exact Nat.le_refl _)⟩, ⟨Bh_8⟩, ⟨Bh_10⟩, ⟨Bh_11⟩, ⟨hb_⟩⟩
  ·replace c10 := Bool.eq_false_iff.mpr c10
   subst c10; rw [if_neg (show ¬ (false = true) by decide)] at H; have H' := Aside0.mk H; clear H; have hnb26 := NB351_352.out; have hnc26 := NB352_351.out; have hz27 := bc4_ BK351.out; go_wp2_with (first | ((with_reducible refine gate_callee (f := 77) rfl ?_); refine gA_ (some 18) Try.func77 (impl_SeqOk.calls _ _ _ _ _ _ _ _ _ _ _ ?side1 ?side2 ?side3 ?side4 A9.out) ?_; (case side1 => repeat (first | exact (Kd.C_below HR0_2.out HB.out) | (with_reducible refine Kd.C_alloc ?_ _) | (with_reducible refine Kd.C_drewN ?_ _) | (with_reducible refine Kd.C_drew ?_))); (case side2 => exact HC0_2.out); (case side3 => repeat (first | exact (Kd.C_below HR0_3.out HB.out) | (with_reducible refine Kd.C_alloc ?_ _) | (with_reducible refine Kd.C_drewN ?_ _) | (with_reducible refine Kd.C_drew ?_))); (case side4 => exact HC0_3.out); rintro e w28 ⟨rfl, hb⟩; refine ⟨_, rfl, ?_⟩; replace HO355 := Aside0.mk (Kd.R_below Bh_8 hb); replace BK351 := bb_ BK351 hb; replace BK352 := bb_ BK352 hb; replace HB := Aside0.mk (below_step hb_ hb); (try clear hb); (try clear hb2); (try clear hk); (try clear hi))); go_meet
   case rel => exact ⟨_, (true), Bh_5, H', ⟨(by first | omega | exact Nat.le_refl _)⟩, ⟨Bh_8⟩, ⟨Bh_10⟩, ⟨Bh_11⟩, ⟨hb_⟩⟩
 case rest =>
  clear HC4; try clear c1; try clear c2; try clear p2; try clear c7; try clear c10; try clear c12; try clear c14; try clear c21; try clear c26; try clear hz15; try clear hz17; try clear hz19; try clear hz22; try clear hz24; try clear hz27
  obtain ⟨kq, x31_3, rfl, HA, HJ3, HO_9, BK351, BK352, HB⟩ := hcut; cases kq with
  | zero => exact absurd HA.out (by simp [impl_PictureParts.j0])
  | succ kj3 =>
   have H := HA.out; clear HA; simp only [impl_PictureParts.j0] at H; by_cases c29 : x31_3 = true
   ·subst c29
    rw [if_pos rfl] at H; simp only [Option.some.injEq, Prod.mk.injEq] at H; obtain ⟨rfl, rfl, rfl⟩ := H; go_wp2; go_ret3
    exact ⟨_, Bh_3, Bh_12, hb_⟩
   ·replace c29 := Bool.eq_false_iff.mpr c29
    subst c29; rw [if_neg (show ¬ (false = true) by decide)] at H; have H' := Aside0.mk H; clear H; go_wp2; go_loopg [9, 10, 35] kj3 (fun kq v9 v10 v35 w' => ∃ (x9_2 : List (S112)) (x10_2 : Int) (x35_2 : Int), v10 = .int .i64 x10_2 ∧ v35 = .int .i64 x35_2 ∧ Aside0 (impl_PictureParts.l0 kq x9_2 x10_2 l2 (l2.length : Int) x35_2 a0_0 a0_1 l0_2 l0_3 a1_0 a1_1 a1_2 a1_3 = some (r1, r2, r3)) ∧ Aside0 (kq ≤ kj3) ∧ Aside0 (Kd.R k112 112 w' w.heap.size (fun _ => True) v9 x9_2) ∧ Aside0 (w'.heap[gb351]? = some (.cells #[.int .i64 a0_0, .int .i64 a0_1, (.slice A0_2 l0_2.length c0_2), (.slice A0_3 l0_3.length c0_3)] 33 (0, 0))) ∧ Aside0 (w'.heap[gb352]? = some (.cells #[.int .i64 a1_0, .bool a1_1, .bool a1_2, .bool a1_3] 35 (0, 0))) ∧ Aside0 (Below w.heap.size w w'))
    case atStart => exact ⟨(y353), (0), (0), Bh_5, Bh_5, H', ⟨Nat.le_refl _⟩, ⟨Bh_12⟩, ⟨Bh_10⟩, ⟨Bh_11⟩, ⟨hb_⟩⟩
    case round =>
     clear H'; try clear c1; try clear c2; try clear p2; try clear c7; try clear c10; try clear c12; try clear c14; try clear c21; try clear c26; try clear c29; try clear hz15; try clear hz17; try clear hz19; try clear hz22; try clear hz24; try clear hz27
     obtain ⟨x9_2, x10_2, x35_2, rfl, rfl, HA, HK2, HO_9, BK351, BK352, HB⟩ := hrel; cases gk with
     | zero => exact absurd HA.out (by simp [impl_PictureParts.l0])
     | succ k2 =>
      have H := HA.out; clear HA; simp only [impl_PictureParts.l0] at H; by_cases c30 : x35_2 < (l2.length : Int)
      ·rw [if_pos c30] at H
       have c30b0 : decide (x35_2 < (l2.length : Int)) = true := decide_eq_true c30; clear c30; by_cases c31 : 0 ≤ x35_2
       ·rw [if_pos c31] at H
        have c31b0 : decide (0 ≤ x35_2) = true := decide_eq_true c31; clear c31; by_cases c32 : x35_2 < (l2.length : Int)
        ·rw [if_pos c32] at H
         have c32b0 : decide (x35_2 < (l2.length : Int)) = true := decide_eq_true c32; clear c32; replace H := Option.bind_eq_some_iff.mp H; obtain ⟨⟨t360, t361, t362, t363, t364, t365, t366⟩, A330, H⟩ := H; try dsimp only at H
         have A33 := Aside0.mk A330; clear A330; have HC34 := Aside0.mk H; clear H; have p359 : 0 ≤ (x35_2 : Int) := of_decide_eq_true Bh_4; have q359 : x35_2 < (l2.length : Int) := of_decide_eq_true Bh_4; obtain ⟨ad359, e359, hx359_0⟩ := Kd.at_string HR2.out x35_2 p359 q359; cases e359; replace hx359_0 := (HB.out.cell (World.block_lt_of_cell? w _ hx359_0)).trans hx359_0; replace p359 := eq_true p359; replace q359 := eq_true q359; have hnb35 := NB351_352.out; have hnc35 := NB352_351.out; have hz36 := bc4_ BK351.out; have hz37 := bc4_ BK352.out; go_upto_if 49 with (first | ((with_reducible refine gate_callee (f := 80) rfl ?_); refine gA_ (some 44) Try.func80 (impl_PartIn.calls _ _ _ _ _ _ _ _ _ _ _ _ _ _ _ _ _ _ _ _ _ _ ?side1 ?side2 ?side3 ?side4 A33.out) ?_; (case side1 => repeat (first | exact (Kd.C_below HR0_2.out HB.out) | (with_reducible refine Kd.C_alloc ?_ _) | (with_reducible refine Kd.C_drewN ?_ _) | (with_reducible refine Kd.C_drew ?_))); (case side2 => exact HC0_2.out); (case side3 => repeat (first | exact (Kd.C_below HR0_3.out HB.out) | (with_reducible refine Kd.C_alloc ?_ _) | (with_reducible refine Kd.C_drewN ?_ _) | (with_reducible refine Kd.C_drew ?_))); (case side4 => exact HC0_3.out); rintro e w38 ⟨rfl, hb⟩; refine ⟨_, rfl, ?_⟩; replace HO_9 := Aside0.mk (Kd.R_below Bh_12 hb); replace BK351 := bb_ BK351 hb; replace BK352 := bb_ BK352 hb; replace HB := Aside0.mk (below_step hb_ hb); (try clear hb); (try clear hb2); (try clear hk); (try clear hi)) | ((with_reducible refine gate_dst (N := 13) rfl ?_); (try (refine gate_guard (by rfl) ?_; dsimp only)); refine box_event ?hg (N := 13) ?hd (cs := #[.int .i64 0, .int .i64 0, .int .i64 0]) (t := 135) ?hr ?_; (case hd => rfl); (case hg => rfl); (case hr => first | (go_simp; done) | (go_simp; rfl)); intro gb367 hg w39 hbox hb; replace HO_9 := Aside0.mk (Kd.R_below Bh_12 hb); have BK367 := Aside0.mk (hbox); have GW367 := gw_ hg hb_; have GE367 := gw_ hg hb_; replace HB := Aside0.mk (below_step hb_ hb); obtain ⟨NB351_367, NB367_351, BK351⟩ := nb_ hg hb BK351; obtain ⟨NB352_367, NB367_352, BK352⟩ := nb_ hg hb BK352; clear hb hbox hg) | ((with_reducible refine gate_dst (N := 14) rfl ?_); (try (refine gate_guard (by rfl) ?_; dsimp only)); refine box_event ?hg (N := 14) ?hd (cs := #[.bool false, .int .i64 0, .string (⟨#[]⟩ : ByteArray)]) (t := 112) ?hr ?_; (case hd => rfl); (case hg => rfl); (case hr => first | (go_simp; done) | (go_simp; rfl)); intro gb368 hg w40 hbox hb; replace HO_9 := Aside0.mk (Kd.R_below (Kd.R_elderB Bh_12 gb368 (Nat.le_of_eq hg.symm)) hb); have BK368 := Aside0.mk (hbox); have GW368 := gw_ hg hb_; have GE368 := gw_ hg hb_; replace HB := Aside0.mk (below_step hb_ hb); obtain ⟨NB351_368, NB368_351, BK351⟩ := nb_ hg hb BK351; obtain ⟨NB352_368, NB368_352, BK352⟩ := nb_ hg hb BK352; obtain ⟨NB367_368, NB368_367, BK367⟩ := nb_ hg hb BK367; clear hb hbox hg; have hnb41 := NB367_351.out; have hnc41 := NB351_367.out; have hnb42 := NB367_352.out; have hnc42 := NB352_367.out; have hnb43 := NB367_368.out; have hnc43 := NB368_367.out; have hz44 := bc3_ BK367.out; have hnb45 := NB368_351.out; have hnc45 := NB351_368.out; have hnb46 := NB368_352.out; have hnc46 := NB352_368.out; have hz47 := bc3_ BK368.out))
         (try simp only [Act.put, List.setIfInBounds_toArray, List.set_cons_zero, List.set_cons_succ]); have H := HC34.out; clear HC34; by_cases c48 : x35_2 = 0
         ·rw [if_pos c48] at H
          have c48b0 : (x35_2 == 0) = true := beq_iff_eq.mpr c48; have c48b1 : (x35_2 != 0) = false := bne_eq_false_iff_eq.mpr c48; clear c48; (first | rw [c48b0] | (simp only [i64_w, i32_w]; rw [c48b0]) | skip); by_cases c49 : t366 = true
          ·subst c49
           rw [if_pos rfl] at H; by_cases c50 : t360 = x35_2
           ·rw [if_pos c50] at H
            have c50b0 : (t360 == x35_2) = true := beq_iff_eq.mpr c50; have c50b1 : (t360 != x35_2) = false := bne_eq_false_iff_eq.mpr c50; clear c50; by_cases c51 : x9_2.length < 4398046511104
            ·rw [if_pos c51] at H
             have LMc51 := Aside0.mk c51; clear c51; obtain ⟨y369, hy369⟩ : ∃ y_ : List (S112), y_ = (x9_2 ++ [(⟨t363, t364, t365⟩ : S112)]) := ⟨_, rfl⟩; replace H : (impl_PictureParts.l0 k2 y369 t361 l2 (l2.length : Int) (wrap64 (x35_2 + 1)) a0_0 a0_1 l0_2 l0_3 a1_0 a1_1 a1_2 a1_3) = some (r1, r2, r3) := by first | (rw [hy369]; with_reducible exact H) | (have H2_ := (Option.bind_some _ _).symm.trans H; rw [hy369]; with_reducible exact H2_) | (have H2_ := (Option.bind_some _ _).symm.trans H; with_reducible exact H2_) | with_reducible exact H | (rw [hy369]; exact H) | exact H
             have Ny369 := Aside0.mk hy369; clear hy369; have H' := Aside0.mk H; clear H; have hnb52 := NB367_351.out; have hnc52 := NB351_367.out; have hnb53 := NB367_352.out; have hnc53 := NB352_367.out; have hnb54 := NB367_368.out; have hnc54 := NB368_367.out; have hz55 := bc3_ BK367.out; have hnb56 := NB368_351.out; have hnc56 := NB351_368.out; have hnb57 := NB368_352.out; have hnc57 := NB352_368.out; have hz58 := bc3_ BK368.out; go_wp2_with (first | ((with_reducible refine gate_builtin (b := .append) (xs := #[.tmp 67, .tmp 69]) rfl ?_); (try (refine gate_guard (by rfl) ?_; dsimp only)); at_builtin; refine Kd.R_append k112 (w0 := w) w.heap.size rfl (.tmp 67) (.tmp 69) 30 112 (.agg #[(.bool false), (.int .i64 0), (.string ⟨#[]⟩)]) 32 rfl Try.underlying30 info112 rfl (by decide) (by omega) u9 x9_2 (⟨t363, t364, t365⟩ : S112) [.bool t363, .int .i64 t364, .string t365] (fun k_ => k_ ≠ gb368) (fun _ => False) rfl (by first | (go_simp; done) | (go_simp; rfl)) ?aP (fun _ hk => hk.elim) ?aF ?aO ?aB ?aS ?aL ?_; (case aP => exact k112_mkM _ _ _ (⟨t363, t364, t365⟩ : S112)); (case aB => exact hb_); (case aF => exact (fun k_ hk => Kd.freshB (g := gb368) (o := .cells #[.bool t363, .int .i64 t364, .string t365] 112 (0, 0)) Bh_0 k_ hk)); (case aO => exact Bh_9); (case aS => exact (below_size hb_)); (case aL => have := LMc51.out; omega); intro v370 w59 ho hb hg hat; rw [← Ny369.out] at ho; replace BK351 := Aside0.mk (blk_grown (g := gb351) (o := .cells #[.int .i64 a0_0, .int .i64 a0_1, .slice A0_2 l0_2.length c0_2, .slice A0_3 l0_3.length c0_3] 33 (0, 0)) Bh_6 hg (Kd.R_ne HO_9.out BK351.out (by decide))); replace BK352 := Aside0.mk (blk_grown (g := gb352) (o := .cells #[.int .i64 a1_0, .bool a1_1, .bool a1_2, .bool a1_3] 35 (0, 0)) Bh_7 hg (Kd.R_ne HO_9.out BK352.out (by decide))); replace BK367 := Aside0.mk (blk_grown (g := gb367) (o := .cells #[.int .i64 t360, .int .i64 t361, .int .i64 t362] 135 (0, 0)) Bh_1 hg (Kd.R_ne HO_9.out BK367.out (by decide))); replace BK368 := Aside0.mk (blk_grown (g := gb368) (o := .cells #[.bool t363, .int .i64 t364, .string t365] 112 (0, 0)) Bh_0 hg (Kd.R_away HO_9.out (fun _ hk => hk.2))); replace HB := Aside0.mk (hb); have HO371 := Aside0.mk (ho); clear HO_9; clear ho hb hg hat)); go_roundg k2
             case measure => have := HJ3.out; have := HK2.out; omega
             case rel => exact ⟨(y369), (t361), (wrap64 (x35_2 + 1)), Bh_5, Bh_5, H', ⟨(by have := HJ3.out; have := HK2.out; omega)⟩, ⟨(by (with_reducible repeat (first | apply Kd.R_alloc | apply Kd.R_drewN | apply Kd.R_drew)); exact Kd.R_mono HO371.out (fun _ hk => trivial))⟩, ⟨Bh_10⟩, ⟨Bh_11⟩, ⟨hb_⟩⟩
            ·rw [if_neg c51] at H
             exact absurd H (by simp)
           ·rw [if_neg c50] at H
            have c50b0 : (t360 == x35_2) = false := beq_eq_false_iff_ne.mpr c50; have c50b1 : (t360 != x35_2) = true := bne_iff_ne.mpr c50; obtain ⟨y372, hy372⟩ : ∃ y_ : List (S112), y_ = (([] : List (S112))) := ⟨_, rfl⟩; replace H : (some (y372, 0, false)) = some (r1, r2, r3) := by first | (rw [hy372]; with_reducible exact H) | (have H2_ := (Option.bind_some _ _).symm.trans H; rw [hy372]; with_reducible exact H2_) | (have H2_ := (Option.bind_some _ _).symm.trans H; with_reducible exact H2_) | with_reducible exact H | (rw [hy372]; exact H) | exact H
            have Ny372 := Aside0.mk hy372; clear hy372; simp only [Option.some.injEq, Prod.mk.injEq] at H; obtain ⟨rfl, rfl, rfl⟩ := H; have hnb60 := NB367_351.out; have hnc60 := NB351_367.out; have hnb61 := NB367_352.out; have hnc61 := NB352_367.out; have hnb62 := NB367_368.out; have hnc62 := NB368_367.out; have hz63 := bc3_ BK367.out; go_wp2_with (first | ((with_reducible refine gate_dst (N := 66) rfl ?_); (try (refine gate_guard (by rfl) ?_; dsimp only)); refine Kd.R_lit k112 _ 112 ?hg (N := 66) ?hd (xs := ([] : List (S112))) (inner := []) (ok := fun _ => True) (okp := fun _ => True) ?hr ?hp (fun _ hk => hk) trivial (Below.refl _ _) (Nat.le_refl _) (by simp) ?_; (case hd => rfl); (case hg => rfl); (case hr => first | (go_simp; done) | (go_simp; rfl)); (case hp => exact (Reps.none _ _)); intro v373 w64 ho65 hb hg_ hnew_; clear hg_ hnew_; (first | rw [← Ny372.out] at ho65 | (simp only [Int.reduceToNat] at ho65; rw [← Ny372.out] at ho65)); have HO374 := Aside0.mk (Kd.R_lower (Kd.R_newB (Kd.R_new' ho65 (Kd.R_lt Bh_2)) (g := gb368) (o := .cells #[.bool t363, .int .i64 t364, .string t365] 112 (0, 0)) Bh_0) (below_size hb_)); replace HO_9 := Aside0.mk (Kd.R_elder' Bh_2 (Kd.R_base ho65) hb); replace BK351 := bb_ BK351 hb; replace BK352 := bb_ BK352 hb; replace BK367 := Aside0.mk (blk_below (g := gb367) (o := .cells #[.int .i64 t360, .int .i64 t361, .int .i64 t362] 135 (0, 0)) Bh_1 hb); replace BK368 := Aside0.mk (blk_below (g := gb368) (o := .cells #[.bool t363, .int .i64 t364, .string t365] 112 (0, 0)) Bh_0 hb); replace HB := Aside0.mk (below_step hb_ hb); clear hb ho65)); go_ret3
            exact ⟨_, Bh_3, (by (with_reducible repeat (first | apply Kd.R_alloc | apply Kd.R_drewN | apply Kd.R_drew)); exact Kd.R_mono HO374.out (fun _ hk => trivial)), hb_⟩
          ·replace c49 := Bool.eq_false_iff.mpr c49
           subst c49; rw [if_neg (show ¬ (false = true) by decide)] at H; obtain ⟨y375, hy375⟩ : ∃ y_ : List (S112), y_ = (([] : List (S112))) := ⟨_, rfl⟩; replace H : (some (y375, 0, false)) = some (r1, r2, r3) := by first | (rw [hy375]; with_reducible exact H) | (have H2_ := (Option.bind_some _ _).symm.trans H; rw [hy375]; with_reducible exact H2_) | (have H2_ := (Option.bind_some _ _).symm.trans H; with_reducible exact H2_) | with_reducible exact H | (rw [hy375]; exact H) | exact H
           have Ny375 := Aside0.mk hy375; clear hy375; simp only [Option.some.injEq, Prod.mk.injEq] at H; obtain ⟨rfl, rfl, rfl⟩ := H; have hnb66 := NB367_351.out; have hnc66 := NB351_367.out; have hnb67 := NB367_352.out; have hnc67 := NB352_367.out; have hnb68 := NB367_368.out; have hnc68 := NB368_367.out; have hz69 := bc3_ BK367.out; go_wp2_with (first | ((with_reducible refine gate_dst (N := 66) rfl ?_); (try (refine gate_guard (by rfl) ?_; dsimp only)); refine Kd.R_lit k112 _ 112 ?hg (N := 66) ?hd (xs := ([] : List (S112))) (inner := []) (ok := fun _ => True) (okp := fun _ => True) ?hr ?hp (fun _ hk => hk) trivial (Below.refl _ _) (Nat.le_refl _) (by simp) ?_; (case hd => rfl); (case hg => rfl); (case hr => first | (go_simp; done) | (go_simp; rfl)); (case hp => exact (Reps.none _ _)); intro v376 w70 ho71 hb hg_ hnew_; clear hg_ hnew_; (first | rw [← Ny375.out] at ho71 | (simp only [Int.reduceToNat] at ho71; rw [← Ny375.out] at ho71)); have HO377 := Aside0.mk (Kd.R_lower (Kd.R_newB (Kd.R_new' ho71 (Kd.R_lt Bh_2)) (g := gb368) (o := .cells #[.bool t363, .int .i64 t364, .string t365] 112 (0, 0)) Bh_0) (below_size hb_)); replace HO_9 := Aside0.mk (Kd.R_elder' Bh_2 (Kd.R_base ho71) hb); replace BK351 := bb_ BK351 hb; replace BK352 := bb_ BK352 hb; replace BK367 := Aside0.mk (blk_below (g := gb367) (o := .cells #[.int .i64 t360, .int .i64 t361, .int .i64 t362] 135 (0, 0)) Bh_1 hb); replace BK368 := Aside0.mk (blk_below (g := gb368) (o := .cells #[.bool t363, .int .i64 t364, .string t365] 112 (0, 0)) Bh_0 hb); replace HB := Aside0.mk (below_step hb_ hb); clear hb ho71)); go_ret3
           exact ⟨_, Bh_3, (by (with_reducible repeat (first | apply Kd.R_alloc | apply Kd.R_drewN | apply Kd.R_drew)); exact Kd.R_mono HO377.out (fun _ hk => trivial)), hb_⟩
         ·rw [if_neg c48] at H
          have c48b0 : (x35_2 == 0) = false := beq_eq_false_iff_ne.mpr c48; have c48b1 : (x35_2 != 0) = true := bne_iff_ne.mpr c48; (first | rw [c48b0] | (simp only [i64_w, i32_w]; rw [c48b0]) | skip); by_cases c72 : t366 = true
          ·subst c72
           rw [if_pos rfl] at H; by_cases c73 : t360 = x35_2
           ·rw [if_pos c73] at H
            have c73b0 : (t360 == x35_2) = true := beq_iff_eq.mpr c73; have c73b1 : (t360 != x35_2) = false := bne_eq_false_iff_eq.mpr c73; clear c73; by_cases c74 : t361 = x10_2
            ·rw [if_pos c74] at H
             have c74b0 : (t361 == x10_2) = true := beq_iff_eq.mpr c74; have c74b1 : (t361 != x10_2) = false := bne_eq_false_iff_eq.mpr c74; clear c74; by_cases c75 : x9_2.length < 4398046511104
             ·rw [if_pos c75] at H
              have LMc75 := Aside0.mk c75; clear c75; obtain ⟨y378, hy378⟩ : ∃ y_ : List (S112), y_ = (x9_2 ++ [(⟨t363, t364, t365⟩ : S112)]) := ⟨_, rfl⟩; replace H : (impl_PictureParts.l0 k2 y378 x10_2 l2 (l2.length : Int) (wrap64 (x35_2 + 1)) a0_0 a0_1 l0_2 l0_3 a1_0 a1_1 a1_2 a1_3) = some (r1, r2, r3) := by first | (rw [hy378]; with_reducible exact H) | (have H2_ := (Option.bind_some _ _).symm.trans H; rw [hy378]; with_reducible exact H2_) | (have H2_ := (Option.bind_some _ _).symm.trans H; with_reducible exact H2_) | with_reducible exact H | (rw [hy378]; exact H) | exact H
              have Ny378 := Aside0.mk hy378; clear hy378; have H' := Aside0.mk H; clear H; have hnb76 := NB367_351.out; have hnc76 := NB351_367.out; have hnb77 := NB367_352.out; have hnc77 := NB352_367.out; have hnb78 := NB367_368.out; have hnc78 := NB368_367.out; have hz79 := bc3_ BK367.out; have hnb80 := NB368_351.out; have hnc80 := NB351_368.out; have hnb81 := NB368_352.out; have hnc81 := NB352_368.out; have hz82 := bc3_ BK368.out; go_wp2_with (first | ((with_reducible refine gate_builtin (b := .append) (xs := #[.tmp 67, .tmp 69]) rfl ?_); (try (refine gate_guard (by rfl) ?_; dsimp only)); at_builtin; refine Kd.R_append k112 (w0 := w) w.heap.size rfl (.tmp 67) (.tmp 69) 30 112 (.agg #[(.bool false), (.int .i64 0), (.string ⟨#[]⟩)]) 32 rfl Try.underlying30 info112 rfl (by decide) (by omega) u9 x9_2 (⟨t363, t364, t365⟩ : S112) [.bool t363, .int .i64 t364, .string t365] (fun k_ => k_ ≠ gb368) (fun _ => False) rfl (by first | (go_simp; done) | (go_simp; rfl)) ?aP (fun _ hk => hk.elim) ?aF ?aO ?aB ?aS ?aL ?_; (case aP => exact k112_mkM _ _ _ (⟨t363, t364, t365⟩ : S112)); (case aB => exact hb_); (case aF => exact (fun k_ hk => Kd.freshB (g := gb368) (o := .cells #[.bool t363, .int .i64 t364, .string t365] 112 (0, 0)) Bh_0 k_ hk)); (case aO => exact Bh_9); (case aS => exact (below_size hb_)); (case aL => have := LMc75.out; omega); intro v379 w83 ho hb hg hat; rw [← Ny378.out] at ho; replace BK351 := Aside0.mk (blk_grown (g := gb351) (o := .cells #[.int .i64 a0_0, .int .i64 a0_1, .slice A0_2 l0_2.length c0_2, .slice A0_3 l0_3.length c0_3] 33 (0, 0)) Bh_6 hg (Kd.R_ne HO_9.out BK351.out (by decide))); replace BK352 := Aside0.mk (blk_grown (g := gb352) (o := .cells #[.int .i64 a1_0, .bool a1_1, .bool a1_2, .bool a1_3] 35 (0, 0)) Bh_7 hg (Kd.R_ne HO_9.out BK352.out (by decide))); replace BK367 := Aside0.mk (blk_grown (g := gb367) (o := .cells #[.int .i64 t360, .int .i64 t361, .int .i64 t362] 135 (0, 0)) Bh_1 hg (Kd.R_ne HO_9.out BK367.out (by decide))); replace BK368 := Aside0.mk (blk_grown (g := gb368) (o := .cells #[.bool t363, .int .i64 t364, .string t365] 112 (0, 0)) Bh_0 hg (Kd.R_away HO_9.out (fun _ hk => hk.2))); replace HB := Aside0.mk (hb); have HO380 := Aside0.mk (ho); clear HO_9; clear ho hb hg hat)); go_roundg k2
              case measure => have := HJ3.out; have := HK2.out; omega
              case rel => exact ⟨(y378), (x10_2), (wrap64 (x35_2 + 1)), Bh_5, Bh_5, H', ⟨(by have := HJ3.out; have := HK2.out; omega)⟩, ⟨(by (with_reducible repeat (first | apply Kd.R_alloc | apply Kd.R_drewN | apply Kd.R_drew)); exact Kd.R_mono HO380.out (fun _ hk => trivial))⟩, ⟨Bh_10⟩, ⟨Bh_11⟩, ⟨hb_⟩⟩
             ·rw [if_neg c75] at H
              exact absurd H (by simp)
            ·rw [if_neg c74] at H
             have c74b0 : (t361 == x10_2) = false := beq_eq_false_iff_ne.mpr c74; have c74b1 : (t361 != x10_2) = true := bne_iff_ne.mpr c74; obtain ⟨y381, hy381⟩ : ∃ y_ : List (S112), y_ = (([] : List (S112))) := ⟨_, rfl⟩; replace H : (some (y381, 0, false)) = some (r1, r2, r3) := by first | (rw [hy381]; with_reducible exact H) | (have H2_ := (Option.bind_some _ _).symm.trans H; rw [hy381]; with_reducible exact H2_) | (have H2_ := (Option.bind_some _ _).symm.trans H; with_reducible exact H2_) | with_reducible exact H | (rw [hy381]; exact H) | exact H
             have Ny381 := Aside0.mk hy381; clear hy381; simp only [Option.some.injEq, Prod.mk.injEq] at H; obtain ⟨rfl, rfl, rfl⟩ := H; have hnb84 := NB367_351.out; have hnc84 := NB351_367.out; have hnb85 := NB367_352.out; have hnc85 := NB352_367.out; have hnb86 := NB367_368.out; have hnc86 := NB368_367.out; have hz87 := bc3_ BK367.out; go_wp2_with (first | ((with_reducible refine gate_dst (N := 66) rfl ?_); (try (refine gate_guard (by rfl) ?_; dsimp only)); refine Kd.R_lit k112 _ 112 ?hg (N := 66) ?hd (xs := ([] : List (S112))) (inner := []) (ok := fun _ => True) (okp := fun _ => True) ?hr ?hp (fun _ hk => hk) trivial (Below.refl _ _) (Nat.le_refl _) (by simp) ?_; (case hd => rfl); (case hg => rfl); (case hr => first | (go_simp; done) | (go_simp; rfl)); (case hp => exact (Reps.none _ _)); intro v382 w88 ho89 hb hg_ hnew_; clear hg_ hnew_; (first | rw [← Ny381.out] at ho89 | (simp only [Int.reduceToNat] at ho89; rw [← Ny381.out] at ho89)); have HO383 := Aside0.mk (Kd.R_lower (Kd.R_newB (Kd.R_new' ho89 (Kd.R_lt Bh_2)) (g := gb368) (o := .cells #[.bool t363, .int .i64 t364, .string t365] 112 (0, 0)) Bh_0) (below_size hb_)); replace HO_9 := Aside0.mk (Kd.R_elder' Bh_2 (Kd.R_base ho89) hb); replace BK351 := bb_ BK351 hb; replace BK352 := bb_ BK352 hb; replace BK367 := Aside0.mk (blk_below (g := gb367) (o := .cells #[.int .i64 t360, .int .i64 t361, .int .i64 t362] 135 (0, 0)) Bh_1 hb); replace BK368 := Aside0.mk (blk_below (g := gb368) (o := .cells #[.bool t363, .int .i64 t364, .string t365] 112 (0, 0)) Bh_0 hb); replace HB := Aside0.mk (below_step hb_ hb); clear hb ho89)); go_ret3
             exact ⟨_, Bh_3, (by (with_reducible repeat (first | apply Kd.R_alloc | apply Kd.R_drewN | apply Kd.R_drew)); exact Kd.R_mono HO383.out (fun _ hk => trivial)), hb_⟩
           ·rw [if_neg c73] at H
            have c73b0 : (t360 == x35_2) = false := beq_eq_false_iff_ne.mpr c73; have c73b1 : (t360 != x35_2) = true := bne_iff_ne.mpr c73; obtain ⟨y384, hy384⟩ : ∃ y_ : List (S112), y_ = (([] : List (S112))) := ⟨_, rfl⟩; replace H : (some (y384, 0, false)) = some (r1, r2, r3) := by first | (rw [hy384]; with_reducible exact H) | (have H2_ := (Option.bind_some _ _).symm.trans H; rw [hy384]; with_reducible exact H2_) | (have H2_ := (Option.bind_some _ _).symm.trans H; with_reducible exact H2_) | with_reducible exact H | (rw [hy384]; exact H) | exact H
            have Ny384 := Aside0.mk hy384; clear hy384; simp only [Option.some.injEq, Prod.mk.injEq] at H; obtain ⟨rfl, rfl, rfl⟩ := H; have hnb90 := NB367_351.out; have hnc90 := NB351_367.out; have hnb91 := NB367_352.out; have hnc91 := NB352_367.out; have hnb92 := NB367_368.out; have hnc92 := NB368_367.out; have hz93 := bc3_ BK367.out; go_wp2_with (first | ((with_reducible refine gate_dst (N := 66) rfl ?_); (try (refine gate_guard (by rfl) ?_; dsimp only)); refine Kd.R_lit k112 _ 112 ?hg (N := 66) ?hd (xs := ([] : List (S112))) (inner := []) (ok := fun _ => True) (okp := fun _ => True) ?hr ?hp (fun _ hk => hk) trivial (Below.refl _ _) (Nat.le_refl _) (by simp) ?_; (case hd => rfl); (case hg => rfl); (case hr => first | (go_simp; done) | (go_simp; rfl)); (case hp => exact (Reps.none _ _)); intro v385 w94 ho95 hb hg_ hnew_; clear hg_ hnew_; (first | rw [← Ny384.out] at ho95 | (simp only [Int.reduceToNat] at ho95; rw [← Ny384.out] at ho95)); have HO386 := Aside0.mk (Kd.R_lower (Kd.R_newB (Kd.R_new' ho95 (Kd.R_lt Bh_2)) (g := gb368) (o := .cells #[.bool t363, .int .i64 t364, .string t365] 112 (0, 0)) Bh_0) (below_size hb_)); replace HO_9 := Aside0.mk (Kd.R_elder' Bh_2 (Kd.R_base ho95) hb); replace BK351 := bb_ BK351 hb; replace BK352 := bb_ BK352 hb; replace BK367 := Aside0.mk (blk_below (g := gb367) (o := .cells #[.int .i64 t360, .int .i64 t361, .int .i64 t362] 135 (0, 0)) Bh_1 hb); replace BK368 := Aside0.mk (blk_below (g := gb368) (o := .cells #[.bool t363, .int .i64 t364, .string t365] 112 (0, 0)) Bh_0 hb); replace HB := Aside0.mk (below_step hb_ hb); clear hb ho95)); go_ret3
            exact ⟨_, Bh_3, (by (with_reducible repeat (first | apply Kd.R_alloc | apply Kd.R_drewN | apply Kd.R_drew)); exact Kd.R_mono HO386.out (fun _ hk => trivial)), hb_⟩
          ·replace c72 := Bool.eq_false_iff.mpr c72
           subst c72; rw [if_neg (show ¬ (false = true) by decide)] at H; obtain ⟨y387, hy387⟩ : ∃ y_ : List (S112), y_ = (([] : List (S112))) := ⟨_, rfl⟩; replace H : (some (y387, 0, false)) = some (r1, r2, r3) := by first | (rw [hy387]; with_reducible exact H) | (have H2_ := (Option.bind_some _ _).symm.trans H; rw [hy387]; with_reducible exact H2_) | (have H2_ := (Option.bind_some _ _).symm.trans H; with_reducible exact H2_) | with_reducible exact H | (rw [hy387]; exact H) | exact H
           have Ny387 := Aside0.mk hy387; clear hy387; simp only [Option.some.injEq, Prod.mk.injEq] at H; obtain ⟨rfl, rfl, rfl⟩ := H; go_wp2_with (first | ((with_reducible refine gate_dst (N := 66) rfl ?_); (try (refine gate_guard (by rfl) ?_; dsimp only)); refine Kd.R_lit k112 _ 112 ?hg (N := 66) ?hd (xs := ([] : List (S112))) (inner := []) (ok := fun _ => True) (okp := fun _ => True) ?hr ?hp (fun _ hk => hk) trivial (Below.refl _ _) (Nat.le_refl _) (by simp) ?_; (case hd => rfl); (case hg => rfl); (case hr => first | (go_simp; done) | (go_simp; rfl)); (case hp => exact (Reps.none _ _)); intro v388 w96 ho97 hb hg_ hnew_; clear hg_ hnew_; (first | rw [← Ny387.out] at ho97 | (simp only [Int.reduceToNat] at ho97; rw [← Ny387.out] at ho97)); have HO389 := Aside0.mk (Kd.R_lower (Kd.R_newB (Kd.R_new' ho97 (Kd.R_lt Bh_2)) (g := gb368) (o := .cells #[.bool t363, .int .i64 t364, .string t365] 112 (0, 0)) Bh_0) (below_size hb_)); replace HO_9 := Aside0.mk (Kd.R_elder' Bh_2 (Kd.R_base ho97) hb); replace BK351 := bb_ BK351 hb; replace BK352 := bb_ BK352 hb; replace BK367 := Aside0.mk (blk_below (g := gb367) (o := .cells #[.int .i64 t360, .int .i64 t361, .int .i64 t362] 135 (0, 0)) Bh_1 hb); replace BK368 := Aside0.mk (blk_below (g := gb368) (o := .cells #[.bool t363, .int .i64 t364, .string t365] 112 (0, 0)) Bh_0 hb); replace HB := Aside0.mk (below_step hb_ hb); clear hb ho97)); go_ret3
           exact ⟨_, Bh_3, (by (with_reducible repeat (first | apply Kd.R_alloc | apply Kd.R_drewN | apply Kd.R_drew)); exact Kd.R_mono HO389.out (fun _ hk => trivial)), hb_⟩
        ·rw [if_neg c32] at H
         exact absurd H (by simp)
       ·rw [if_neg c31] at H
        exact absurd H (by simp)
      ·rw [if_neg c30] at H
       have c30b0 : decide (x35_2 < (l2.length : Int)) = false := decide_eq_false c30; clear c30; simp only [Option.some.injEq, Prod.mk.injEq] at H; obtain ⟨rfl, rfl, rfl⟩ := H; go_wp2; go_ret3
       exact ⟨_, Bh_3, Bh_12, hb_⟩
end Go.Proofs.Ytbjambmdononiaa.PFnExactPictureParts
namespace Go.Proofs.Ytbjambmdononiaa.PFnExactPictureParts
open Go.RowKit Go.Proofs.YtbjambmdononiaaW.PrintWords Go.Proofs.YtbjambmdononiaaW.PrintLast Go.Proofs.YtbjambmdononiaaW.PrintMore
attribute [local go_sem] max2_int min2_int max_two min_two max_three min_three max_four min_four
set_option linter.unusedVariables false
set_option linter.unusedSimpArgs false
def laws_eqPart.f (a0_0 : Bool) (a0_1 : Int) (a0_2 : ByteArray) (a1_0 : Bool) (a1_1 : Int) (a1_2 : ByteArray) : Option (Bool) := if (a0_0 != a1_0) = true then (some false) else (if a0_1 = a1_1 then (if a0_2.toList = a1_2.toList then (some true) else (some false)) else (some false))
set_option maxHeartbeats 8000000 in
set_option maxRecDepth 100000 in
theorem laws_eqPart.calls (a0_0 : Bool) (a0_1 : Int) (a0_2 : ByteArray) (a1_0 : Bool) (a1_1 : Int) (a1_2 : ByteArray) (r : Bool) (w : World) (h : laws_eqPart.f a0_0 a0_1 a0_2 a1_0 a1_1 a1_2 = some r) :
  Calls Try.prog 81 #[.agg #[.bool a0_0, .int .i64 a0_1, .string a0_2], .agg #[.bool a1_0, .int .i64 a1_1, .string a1_2]] w fun e w' => e = .returned (.bool r) ∧ Below w.heap.size w w' := by
 have hu112 := Try.underlying112; have HB := Aside0.mk (Below.refl w.heap.size w); have H : (if (a0_0 != a1_0) = true then (some false) else (if a0_1 = a1_1 then (if a0_2.toList = a1_2.toList then (some true) else (some false)) else (some false))) = some r := h; clear h; have HC3 := Aside0.mk H; clear H; go_enter Try.func81, Try.ntmps81; go_upto_if 9 with (first | ((with_reducible refine gate_dst (N := 2) rfl ?_); refine bx_ (N := 2) (cs := #[.bool a0_0, .int .i64 a0_1, .string a0_2]) (t := 112) ?_; intro gb390 hg w4 hbox hb; have BK390 := Aside0.mk (hbox); have GW390 := gw_ hg hb_; have GE390 := gw_ hg hb_; replace HB := Aside0.mk (below_step hb_ hb); clear hb hbox hg) | ((with_reducible refine gate_dst (N := 3) rfl ?_); refine bx_ (N := 3) (cs := #[.bool a1_0, .int .i64 a1_1, .string a1_2]) (t := 112) ?_; intro gb391 hg w5 hbox hb; have BK391 := Aside0.mk (hbox); have GW391 := gw_ hg hb_; have GE391 := gw_ hg hb_; replace HB := Aside0.mk (below_step hb_ hb); obtain ⟨NB390_391, NB391_390, BK390⟩ := nb_ hg hb BK390; clear hb hbox hg; have hnb6 := NB390_391.out; have hnc6 := NB391_390.out; have hz7 := bc3_ BK390.out; have hz8 := bc3_ BK391.out))
 (try simp only [Act.put, List.setIfInBounds_toArray, List.set_cons_zero, List.set_cons_succ]); have H := HC3.out; clear HC3; by_cases c9 : (a0_0 != a1_0) = true
 ·rw [if_pos c9] at H
  have c9b0 : (a0_0 != a1_0) = true := c9; (try (have c9b1 : decide (a0_0 = a1_0) = false := by simpa using c9)); (try (have c9b2 : (a0_0 == a1_0) = false := by simpa using c9)); (try (have c9b3 : ¬ (a0_0 = a1_0) := by simpa using c9)); clear c9; (first | rw [c9b0] | (simp only [i64_w, i32_w]; rw [c9b0]) | (rw [c9b2]; simp only [Bool.not_true, Bool.not_false]) | skip); obtain rfl := Option.some.inj H; go_wp2; go_ret; exact ⟨Bh_3, hb_⟩
 ·rw [if_neg c9] at H
  have c9b0 : (a0_0 != a1_0) = false := by simpa using c9
  (try (have c9b1 : decide (a0_0 = a1_0) = true := by simpa using c9)); (try (have c9b2 : (a0_0 == a1_0) = true := by simpa using c9)); clear c9; (first | rw [c9b0] | (simp only [i64_w, i32_w]; rw [c9b0]) | (rw [c9b2]; simp only [Bool.not_true, Bool.not_false]) | skip); by_cases c10 : a0_1 = a1_1
  ·rw [if_pos c10] at H
   have c10b0 : (a0_1 == a1_1) = true := beq_iff_eq.mpr c10; have c10b1 : (a0_1 != a1_1) = false := bne_eq_false_iff_eq.mpr c10; clear c10; by_cases c11 : a0_2.toList = a1_2.toList
   ·rw [if_pos c11] at H
    have c11b0 : (a0_2.toList == a1_2.toList) = true := beq_iff_eq.mpr c11; have c11b1 : (a0_2.toList != a1_2.toList) = false := bne_eq_false_iff_eq.mpr c11; clear c11; obtain rfl := Option.some.inj H; have hnb12 := NB390_391.out; have hnc12 := NB391_390.out; have hz13 := bc3_ BK390.out; have hz14 := bc3_ BK391.out; go_wp2; go_ret; exact ⟨Bh_3, hb_⟩
   ·rw [if_neg c11] at H
    have c11b0 : (a0_2.toList == a1_2.toList) = false := beq_eq_false_iff_ne.mpr c11; have c11b1 : (a0_2.toList != a1_2.toList) = true := bne_iff_ne.mpr c11; obtain rfl := Option.some.inj H; have hnb15 := NB390_391.out; have hnc15 := NB391_390.out; have hz16 := bc3_ BK390.out; have hz17 := bc3_ BK391.out; go_wp2; go_ret; exact ⟨Bh_3, hb_⟩
  ·rw [if_neg c10] at H
   have c10b0 : (a0_1 == a1_1) = false := beq_eq_false_iff_ne.mpr c10; have c10b1 : (a0_1 != a1_1) = true := bne_iff_ne.mpr c10; obtain rfl := Option.some.inj H; have hnb18 := NB390_391.out; have hnc18 := NB391_390.out; have hz19 := bc3_ BK390.out; have hz20 := bc3_ BK391.out; go_wp2; go_ret; exact ⟨Bh_3, hb_⟩
end Go.Proofs.Ytbjambmdononiaa.PFnExactPictureParts
namespace Go.Proofs.Ytbjambmdononiaa.PFnExactPictureParts
open Go.RowKit Go.Proofs.YtbjambmdononiaaW.PrintWords Go.Proofs.YtbjambmdononiaaW.PrintLast Go.Proofs.YtbjambmdononiaaW.PrintMore
attribute [local go_sem] max2_int min2_int max_two min_two max_three min_three max_four min_four
set_option linter.unusedVariables false
set_option linter.unusedSimpArgs false
def laws_eqPartS.l0 : Nat → List (S112) → List (S112) → Int → Option (Bool)
 | 0, _, _, _ => none
 | k + 1, x0, x1, x5 => if x5 < (x0.length : Int) then (if 0 ≤ x5 then (if x5 < (x1.length : Int) then ((laws_eqPart.f ((rd_T112 x0 x5).f0) ((rd_T112 x0 x5).f1) ((rd_T112 x0 x5).f2) ((rd_T112 x1 x5).f0) ((rd_T112 x1 x5).f1) ((rd_T112 x1 x5).f2)).bind fun t394 => (if t394 = true then (laws_eqPartS.l0 k x0 x1 (wrap64 (x5 + 1))) else (some false))) else (none)) else (none)) else (some true)
def laws_eqPartS.f (k : Nat) (l0 : List (S112)) (l1 : List (S112)) : Option (Bool) := if (l0.length : Int) = (l1.length : Int) then (laws_eqPartS.l0 k l0 l1 0) else (some false)
theorem laws_eqPartS.mono_l : ∀ k, (∀ y0 y1 y2, LeO (laws_eqPartS.l0 k y0 y1 y2) (laws_eqPartS.l0 (k + 1) y0 y1 y2))
 | 0 => fun _ _ _ r h => by simp [laws_eqPartS.l0] at h
 | k + 1 => by
  have ih0 := laws_eqPartS.mono_l k
  ·intro y0 y1 y2
   unfold laws_eqPartS.l0
   repeat' first
   | (with_reducible exact ih0 _ _ _)
   | (with_reducible exact LeO.refl _)
   | (with_reducible exact LeO.none _)
   | (with_reducible refine LeO.ite ?_ ?_)
   | (with_reducible refine LeO.bind ?_ (fun _ => ?_))
   | exact ih0 _ _ _
   | exact LeO.none _
   | refine LeO.ite ?_ ?_
   | refine LeO.bind ?_ (fun _ => ?_)
theorem laws_eqPartS.mono : ∀ a0 a1 k, LeO (laws_eqPartS.f k a0 a1) (laws_eqPartS.f (k + 1) a0 a1) := by
 intro a0 a1 k; have ih0 := laws_eqPartS.mono_l k; unfold laws_eqPartS.f
 repeat' first
   | (with_reducible exact ih0 _ _ _)
   | (with_reducible exact LeO.refl _)
   | (with_reducible exact LeO.none _)
   | (with_reducible refine LeO.ite ?_ ?_)
   | (with_reducible refine LeO.bind ?_ (fun _ => ?_))
   | exact ih0 _ _ _
   | exact LeO.none _
   | refine LeO.ite ?_ ?_
   | refine LeO.bind ?_ (fun _ => ?_)
def laws_eqPartS.T6 : Bool × List (List Nat × List Nat) := (true, [([], []), ([], []), ([0, 1], [0, 1]), ([2], [2]), ([], []), ([], []), ([4, 5], [4, 5]), ([6], [6]), ([3, 7], [3, 7]), ([8], [8])])
def laws_eqPartS.B6 : List Nat := [0, 0, 3, 7, 0, 0, 48, 112, 255, 511]
theorem laws_eqPartS.tab6 : rtab .any (opsOf Try.f22 6) = laws_eqPartS.T6 := by kernel_rfl
theorem laws_eqPartS.bits6 : waitsOk laws_eqPartS.T6.2 laws_eqPartS.B6 = true := by kernel_rfl
set_option maxHeartbeats 8000000 in
set_option maxRecDepth 100000 in
theorem laws_eqPartS.calls (k : Nat) (A0 : Option Addr) (c0 : Nat) (l0 : List (S112)) (A1 : Option Addr) (c1 : Nat) (l1 : List (S112)) (r : Bool) (w : World) (hr0 : Kd.C k112 w A0 l0.length l0) (hc0 : l0.length ≤ c0) (hr1 : Kd.C k112 w A1 l1.length l1) (hc1 : l1.length ≤ c1) (h : laws_eqPartS.f k l0 l1 = some r) :
  Calls Try.prog 22 #[.slice A0 l0.length c0, .slice A1 l1.length c1] w fun e w' => e = .returned (.bool r) ∧ Below w.heap.size w w' := by
 have hu112 := Try.underlying112; have HR0 := Aside0.mk hr0; have HC0 := Aside0.mk hc0; clear hr0 hc0; have HR1 := Aside0.mk hr1; have HC1 := Aside0.mk hc1; clear hr1 hc1; have HB := Aside0.mk (Below.refl w.heap.size w); have H : (if (l0.length : Int) = (l1.length : Int) then (laws_eqPartS.l0 k l0 l1 0) else (some false)) = some r := h; clear h; by_cases c3 : (l0.length : Int) = (l1.length : Int)
 ·rw [if_pos c3] at H
  have c3b0 : ((l0.length : Int) == (l1.length : Int)) = true := beq_iff_eq.mpr c3; have c3b1 : ((l0.length : Int) != (l1.length : Int)) = false := bne_eq_false_iff_eq.mpr c3; have c3b2 : (l0.length == l1.length) = true := by first | simpa using c3 | (simp at c3 ⊢; omega)
  clear c3; have H' := Aside0.mk H; clear H; go_enter Try.func22, Try.ntmps22; go_wp2; go_loopg [5] k (fun kq v5 w' => ∃ (x5_1 : Int), v5 = .int .i64 x5_1 ∧ Aside0 (laws_eqPartS.l0 kq l0 l1 x5_1 = some r) ∧ Aside0 (kq ≤ k) ∧ Aside0 (Below w.heap.size w w'))
  case atStart => exact ⟨(0), Bh_5, H', ⟨Nat.le_refl _⟩, ⟨hb_⟩⟩
  case round =>
   clear H'; try clear c1; try clear c2; try clear p2; try clear c3; try clear c3b0; try clear c3b1; try clear c3b2
   obtain ⟨x5_1, rfl, HA, HK1, HB⟩ := hrel; cases gk with
   | zero => exact absurd HA.out (by simp [laws_eqPartS.l0])
   | succ k1 =>
    have H := HA.out; clear HA; simp only [laws_eqPartS.l0] at H; by_cases c4 : x5_1 < (l0.length : Int)
    ·rw [if_pos c4] at H
     have c4b0 : decide (x5_1 < (l0.length : Int)) = true := decide_eq_true c4; clear c4; by_cases c5 : 0 ≤ x5_1
     ·rw [if_pos c5] at H
      have c5b0 : decide (0 ≤ x5_1) = true := decide_eq_true c5; clear c5; by_cases c6 : x5_1 < (l1.length : Int)
      ·rw [if_pos c6] at H
       have c6b0 : decide (x5_1 < (l1.length : Int)) = true := decide_eq_true c6; clear c6; replace H := Option.bind_eq_some_iff.mp H; obtain ⟨t394, A70, H⟩ := H; try dsimp only at H
       have A7 := Aside0.mk A70; clear A70; have HC8 := Aside0.mk H; clear H; try go_wp2
       replace HB := Aside0.mk (below_drew1 HB.out); have p392 : 0 ≤ (x5_1 : Int) := of_decide_eq_true Bh_4; have q392 : x5_1 < (l0.length : Int) := of_decide_eq_true Bh_4; obtain ⟨ad392, e392, hx392_0, hx392_1, hx392_2⟩ := at_T112 HR0.out x5_1 p392 q392; have hw392_2 := hx392_2; have hw392_1 := hx392_1; have hw392_0 := hx392_0; cases e392; replace hx392_0 := (HB.out.cell (World.block_lt_of_cell? w _ hx392_0)).trans hx392_0; replace hx392_1 := (HB.out.cell (World.block_lt_of_cell? w _ hx392_1)).trans hx392_1; replace hx392_2 := (HB.out.cell (World.block_lt_of_cell? w _ hx392_2)).trans hx392_2; replace p392 := eq_true p392; replace q392 := eq_true q392; have p393 : 0 ≤ (x5_1 : Int) := of_decide_eq_true Bh_4; have q393 : x5_1 < (l1.length : Int) := of_decide_eq_true Bh_4; obtain ⟨ad393, e393, hx393_0, hx393_1, hx393_2⟩ := at_T112 HR1.out x5_1 p393 q393; have hw393_2 := hx393_2; have hw393_1 := hx393_1; have hw393_0 := hx393_0; cases e393; replace hx393_0 := (HB.out.cell (World.block_lt_of_cell? w _ hx393_0)).trans hx393_0; replace hx393_1 := (HB.out.cell (World.block_lt_of_cell? w _ hx393_1)).trans hx393_1; replace hx393_2 := (HB.out.cell (World.block_lt_of_cell? w _ hx393_2)).trans hx393_2; replace p393 := eq_true p393; replace q393 := eq_true q393; refine start_ (n := 10) (S := fun w' => w'.cell? (ad392.add ((x5_1).toNat * 3)) = some (.bool ((rd_T112 l0 x5_1).f0)) ∧ w'.cell? ⟨(ad392.add ((x5_1).toNat * 3)).block, (ad392.add ((x5_1).toNat * 3)).off + 1, none⟩ = some (.int .i64 ((rd_T112 l0 x5_1).f1)) ∧ w'.cell? ⟨(ad392.add ((x5_1).toNat * 3)).block, (ad392.add ((x5_1).toNat * 3)).off + 2, none⟩ = some (.string ((rd_T112 l0 x5_1).f2)) ∧ w'.cell? (ad393.add ((x5_1).toNat * 3)) = some (.bool ((rd_T112 l1 x5_1).f0)) ∧ w'.cell? ⟨(ad393.add ((x5_1).toNat * 3)).block, (ad393.add ((x5_1).toNat * 3)).off + 1, none⟩ = some (.int .i64 ((rd_T112 l1 x5_1).f1)) ∧ w'.cell? ⟨(ad393.add ((x5_1).toNat * 3)).block, (ad393.add ((x5_1).toNat * 3)).off + 2, none⟩ = some (.string ((rd_T112 l1 x5_1).f2))) (ds := []) u10_0 (by kernel_rfl) rfl rfl ⟨((HB.out.cell (World.block_lt_of_cell? w _ hw392_0)).trans hw392_0), ((HB.out.cell (World.block_lt_of_cell? w _ hw392_1)).trans hw392_1), ((HB.out.cell (World.block_lt_of_cell? w _ hw392_2)).trans hw392_2), ((HB.out.cell (World.block_lt_of_cell? w _ hw393_0)).trans hw393_0), ((HB.out.cell (World.block_lt_of_cell? w _ hw393_1)).trans hw393_1), ((HB.out.cell (World.block_lt_of_cell? w _ hw393_2)).trans hw393_2)⟩ (fun hHeld => ?_); refine with_tabW laws_eqPartS.tab6 laws_eqPartS.bits6 (fun HT_ HW_ => ?_); generalize wr.drew = w9 at HB hx392_0 hx392_1 hx392_2 hx393_0 hx393_1 hx393_2 hHeld ⊢
       refine pu_ HT_.out 0 (some 17) u10_1 ?_; refine pu_ HT_.out 1 (some 18) u10_2 ?_; refine pu_ HT_.out 2 (some 19) u10_3 ?_; refine pu_ HT_.out 4 (some 21) u10_3a0x ?_; refine pu_ HT_.out 5 (some 22) u10_3b0x ?_; refine pu_ HT_.out 6 (some 23) u10_3b8x ?_; refine take_ (i := 3) (N := some 20) (v := ?_) (a' := ?_) u10_7 rfl rfl (take_ofW HT_.out HW_.out (by kernel_rfl)) (fun _ _ _ h => h) (Or.inl ⟨(by rfl), ?_⟩) hHeld ?_ ?_; rotate_left
       ·rintro w' ⟨s0, s1, s2, s3, s4, s5⟩
        go_simp; with_reducible rfl
       rotate_left
       ·simp only [Act.put, List.setIfInBounds_toArray, List.set_cons_zero, List.set_cons_succ, i64_w, i32_w]
        rfl
       refine take_ (i := 7) (N := some 24) (v := ?_) (a' := ?_) u10_8 rfl rfl (take_ofW HT_.out HW_.out (by kernel_rfl)) (fun _ _ _ h => h) (Or.inl ⟨(by rfl), ?_⟩) hHeld ?_ ?_; rotate_left
       ·rintro w' ⟨s0, s1, s2, s3, s4, s5⟩
        go_simp; with_reducible rfl
       rotate_left
       ·simp only [Act.put, List.setIfInBounds_toArray, List.set_cons_zero, List.set_cons_succ, i64_w, i32_w]
        rfl
       refine one_ (i := 8) (N := some 25) u10_9 rfl rfl (one_of HT_.out (by kernel_rfl)) (by decide) (fun K hK => ?_); refine goes_ Try.func81 (by kernel_rfl) rfl #[.agg #[.bool ((rd_T112 l0 x5_1).f0), .int .i64 ((rd_T112 l0 x5_1).f1), .string ((rd_T112 l0 x5_1).f2)], .agg #[.bool ((rd_T112 l1 x5_1).f0), .int .i64 ((rd_T112 l1 x5_1).f1), .string ((rd_T112 l1 x5_1).f2)]] (by rfl) rfl rfl (by (try simp only [List.map_toArray, List.map_cons, List.map_nil]); first | done | rfl | (simp only [List.length_drop, List.length_take]; rfl)) ?_; with_reducible refine (laws_eqPart.calls ((rd_T112 l0 x5_1).f0) ((rd_T112 l0 x5_1).f1) ((rd_T112 l0 x5_1).f2) ((rd_T112 l1 x5_1).f0) ((rd_T112 l1 x5_1).f1) ((rd_T112 l1 x5_1).f2) t394 _ A7.out).mono ?_
       rintro e w10 ⟨rfl, hb⟩; refine ⟨_, rfl, ?_⟩; replace HB := Aside0.mk (below_step hb_ hb); (try clear hb); (try clear hb2); (try clear hk); (try clear hi); refine hK.out _ _ ⟨((HB.out.cell (World.block_lt_of_cell? w _ hw392_0)).trans hw392_0), ((HB.out.cell (World.block_lt_of_cell? w _ hw392_1)).trans hw392_1), ((HB.out.cell (World.block_lt_of_cell? w _ hw392_2)).trans hw392_2), ((HB.out.cell (World.block_lt_of_cell? w _ hw393_0)).trans hw393_0), ((HB.out.cell (World.block_lt_of_cell? w _ hw393_1)).trans hw393_1), ((HB.out.cell (World.block_lt_of_cell? w _ hw393_2)).trans hw393_2)⟩ (fun hHeld => ?_); clear hK K; refine no_ ?_; refine pu_ HT_.out 9 (some 26) u10_10 ?_; refine done_ (done_of HT_.out (by kernel_rfl)) ?_; go_upto_if 26 with (fail)
       have H := HC8.out; clear HC8; by_cases c11 : t394 = true
       ·subst c11
        rw [if_pos rfl] at H; have H' := Aside0.mk H; clear H; go_wp2; go_roundg k1
        case measure => have := HK1.out; omega
        case rel => exact ⟨(wrap64 (x5_1 + 1)), Bh_5, H', ⟨(by have := HK1.out; omega)⟩, ⟨hb_⟩⟩
       ·replace c11 := Bool.eq_false_iff.mpr c11
        subst c11; rw [if_neg (show ¬ (false = true) by decide)] at H; obtain rfl := Option.some.inj H; go_wp2; go_ret; exact ⟨Bh_3, hb_⟩
      ·rw [if_neg c6] at H
       exact absurd H (by simp)
     ·rw [if_neg c5] at H
      exact absurd H (by simp)
    ·rw [if_neg c4] at H
     have c4b0 : decide (x5_1 < (l0.length : Int)) = false := decide_eq_false c4; clear c4; obtain rfl := Option.some.inj H; go_wp2; go_ret; exact ⟨Bh_3, hb_⟩
 ·rw [if_neg c3] at H
  have c3b0 : ((l0.length : Int) == (l1.length : Int)) = false := beq_eq_false_iff_ne.mpr c3; have c3b1 : ((l0.length : Int) != (l1.length : Int)) = true := bne_iff_ne.mpr c3; have c3b2 : (l0.length == l1.length) = false := by first | simpa using c3 | (simp at c3 ⊢; omega)
  obtain rfl := Option.some.inj H; go_enter Try.func22, Try.ntmps22; go_wp2; go_ret; exact ⟨Bh_3, hb_⟩
end Go.Proofs.Ytbjambmdononiaa.PFnExactPictureParts
namespace Go.Proofs.Ytbjambmdononiaa.PFnExactPictureParts
open Go.RowKit Go.Proofs.YtbjambmdononiaaW.PrintWords Go.Proofs.YtbjambmdononiaaW.PrintLast Go.Proofs.YtbjambmdononiaaW.PrintMore
attribute [local go_sem] max2_int min2_int max_two min_two max_three min_three max_four min_four
set_option linter.unusedVariables false
set_option linter.unusedSimpArgs false
def laws_eqIntS.l0 : Nat → List Int → List Int → Int → Option (Bool)
 | 0, _, _, _ => none
 | k + 1, x0, x1, x5 => if x5 < (x0.length : Int) then (if 0 ≤ x5 then (if x5 < (x1.length : Int) then (if (rd x0 x5) = (rd x1 x5) then (laws_eqIntS.l0 k x0 x1 (wrap64 (x5 + 1))) else (some false)) else (none)) else (none)) else (some true)
def laws_eqIntS.f (k : Nat) (l0 : List Int) (l1 : List Int) : Option (Bool) := if (l0.length : Int) = (l1.length : Int) then (laws_eqIntS.l0 k l0 l1 0) else (some false)
theorem laws_eqIntS.mono_l : ∀ k, (∀ y0 y1 y2, LeO (laws_eqIntS.l0 k y0 y1 y2) (laws_eqIntS.l0 (k + 1) y0 y1 y2))
 | 0 => fun _ _ _ r h => by simp [laws_eqIntS.l0] at h
 | k + 1 => by
  have ih0 := laws_eqIntS.mono_l k
  ·intro y0 y1 y2
   unfold laws_eqIntS.l0
   repeat' first
   | (with_reducible exact ih0 _ _ _)
   | (with_reducible exact LeO.refl _)
   | (with_reducible exact LeO.none _)
   | (with_reducible refine LeO.ite ?_ ?_)
   | (with_reducible refine LeO.bind ?_ (fun _ => ?_))
   | exact ih0 _ _ _
   | exact LeO.none _
   | refine LeO.ite ?_ ?_
   | refine LeO.bind ?_ (fun _ => ?_)
theorem laws_eqIntS.mono : ∀ a0 a1 k, LeO (laws_eqIntS.f k a0 a1) (laws_eqIntS.f (k + 1) a0 a1) := by
 intro a0 a1 k; have ih0 := laws_eqIntS.mono_l k; unfold laws_eqIntS.f
 repeat' first
   | (with_reducible exact ih0 _ _ _)
   | (with_reducible exact LeO.refl _)
   | (with_reducible exact LeO.none _)
   | (with_reducible refine LeO.ite ?_ ?_)
   | (with_reducible refine LeO.bind ?_ (fun _ => ?_))
   | exact ih0 _ _ _
   | exact LeO.none _
   | refine LeO.ite ?_ ?_
   | refine LeO.bind ?_ (fun _ => ?_)
set_option maxHeartbeats 8000000 in
set_option maxRecDepth 100000 in
theorem laws_eqIntS.calls (k : Nat) (A0 : Option Addr) (c0 : Nat) (l0 : List Int) (A1 : Option Addr) (c1 : Nat) (l1 : List Int) (r : Bool) (w : World) (hr0 : Kd.C (Kd.int .i64) w A0 l0.length l0) (hc0 : l0.length ≤ c0) (hr1 : Kd.C (Kd.int .i64) w A1 l1.length l1) (hc1 : l1.length ≤ c1) (h : laws_eqIntS.f k l0 l1 = some r) :
  Calls Try.prog 82 #[.slice A0 l0.length c0, .slice A1 l1.length c1] w fun e w' => e = .returned (.bool r) ∧ Drawn0 w w' := by
 have HR0 := Aside0.mk hr0; have HC0 := Aside0.mk hc0; clear hr0 hc0; have HR1 := Aside0.mk hr1; have HC1 := Aside0.mk hc1; clear hr1 hc1; have H : (if (l0.length : Int) = (l1.length : Int) then (laws_eqIntS.l0 k l0 l1 0) else (some false)) = some r := h; clear h; by_cases c3 : (l0.length : Int) = (l1.length : Int)
 ·rw [if_pos c3] at H
  have c3b0 : ((l0.length : Int) == (l1.length : Int)) = true := beq_iff_eq.mpr c3; have c3b1 : ((l0.length : Int) != (l1.length : Int)) = false := bne_eq_false_iff_eq.mpr c3; have c3b2 : (l0.length == l1.length) = true := by first | simpa using c3 | (simp at c3 ⊢; omega)
  clear c3; have H' := Aside0.mk H; clear H; go_enter Try.func82, Try.ntmps82; go_wp2
  repeat (go_quiet (fail); try go_wp2)
  go_loopg [5] k (fun kq v5 w' => ∃ (x5_1 : Int), v5 = .int .i64 x5_1 ∧ Aside0 (laws_eqIntS.l0 kq l0 l1 x5_1 = some r) ∧ Aside0 (kq ≤ k) ∧ Drawn0 w w')
  case atStart => exact ⟨(0), Bh_5, H', ⟨Nat.le_refl _⟩, Bh_13⟩
  case round =>
   clear H'; try clear c1; try clear p2; try clear c3; try clear c3b0; try clear c3b1; try clear c3b2
   obtain ⟨x5_1, rfl, HA, HK1, ⟨m1, rfl⟩⟩ := hrel; cases gk with
   | zero => exact absurd HA.out (by simp [laws_eqIntS.l0])
   | succ k1 =>
    have H := HA.out; clear HA; simp only [laws_eqIntS.l0] at H; by_cases c4 : x5_1 < (l0.length : Int)
    ·rw [if_pos c4] at H
     have c4b0 : decide (x5_1 < (l0.length : Int)) = true := decide_eq_true c4; clear c4; by_cases c5 : 0 ≤ x5_1
     ·rw [if_pos c5] at H
      have c5b0 : decide (0 ≤ x5_1) = true := decide_eq_true c5; clear c5; by_cases c6 : x5_1 < (l1.length : Int)
      ·rw [if_pos c6] at H
       have c6b0 : decide (x5_1 < (l1.length : Int)) = true := decide_eq_true c6; clear c6; by_cases c7 : (rd l0 x5_1) = (rd l1 x5_1)
       ·rw [if_pos c7] at H
        have c7b0 : ((rd l0 x5_1) == (rd l1 x5_1)) = true := beq_iff_eq.mpr c7; have c7b1 : ((rd l0 x5_1) != (rd l1 x5_1)) = false := bne_eq_false_iff_eq.mpr c7; clear c7; have H' := Aside0.mk H; clear H; have p395 : 0 ≤ (x5_1 : Int) := of_decide_eq_true Bh_4; have q395 : x5_1 < (l0.length : Int) := of_decide_eq_true Bh_4; obtain ⟨ad395, e395, hx395_0⟩ := Kd.at_int HR0.out x5_1 p395 q395; cases e395; replace p395 := eq_true p395; replace q395 := eq_true q395; have p396 : 0 ≤ (x5_1 : Int) := of_decide_eq_true Bh_4; have q396 : x5_1 < (l1.length : Int) := of_decide_eq_true Bh_4; obtain ⟨ad396, e396, hx396_0⟩ := Kd.at_int HR1.out x5_1 p396 q396; cases e396; replace p396 := eq_true p396; replace q396 := eq_true q396; go_wp2
        repeat (go_quiet (fail); try go_wp2)
        go_roundg k1
        case measure => have := HK1.out; omega
        case rel => exact ⟨(wrap64 (x5_1 + 1)), Bh_5, H', ⟨(by have := HK1.out; omega)⟩, Bh_13⟩
       ·rw [if_neg c7] at H
        have c7b0 : ((rd l0 x5_1) == (rd l1 x5_1)) = false := beq_eq_false_iff_ne.mpr c7; have c7b1 : ((rd l0 x5_1) != (rd l1 x5_1)) = true := bne_iff_ne.mpr c7; obtain rfl := Option.some.inj H; have p395 : 0 ≤ (x5_1 : Int) := of_decide_eq_true Bh_4; have q395 : x5_1 < (l0.length : Int) := of_decide_eq_true Bh_4; obtain ⟨ad395, e395, hx395_0⟩ := Kd.at_int HR0.out x5_1 p395 q395; cases e395; replace p395 := eq_true p395; replace q395 := eq_true q395; have p396 : 0 ≤ (x5_1 : Int) := of_decide_eq_true Bh_4; have q396 : x5_1 < (l1.length : Int) := of_decide_eq_true Bh_4; obtain ⟨ad396, e396, hx396_0⟩ := Kd.at_int HR1.out x5_1 p396 q396; cases e396; replace p396 := eq_true p396; replace q396 := eq_true q396; go_wp2
        repeat (go_quiet (fail); try go_wp2)
        go_ret; exact ⟨Bh_5, Bh_13⟩
      ·rw [if_neg c6] at H
       exact absurd H (by simp)
     ·rw [if_neg c5] at H
      exact absurd H (by simp)
    ·rw [if_neg c4] at H
     have c4b0 : decide (x5_1 < (l0.length : Int)) = false := decide_eq_false c4; clear c4; obtain rfl := Option.some.inj H; go_wp2
     repeat (go_quiet (fail); try go_wp2)
     go_ret; exact ⟨Bh_5, Bh_13⟩
 ·rw [if_neg c3] at H
  have c3b0 : ((l0.length : Int) == (l1.length : Int)) = false := beq_eq_false_iff_ne.mpr c3; have c3b1 : ((l0.length : Int) != (l1.length : Int)) = true := bne_iff_ne.mpr c3; have c3b2 : (l0.length == l1.length) = false := by first | simpa using c3 | (simp at c3 ⊢; omega)
  obtain rfl := Option.some.inj H; go_enter Try.func82, Try.ntmps82; go_wp2
  repeat (go_quiet (fail); try go_wp2)
  go_ret; exact ⟨Bh_5, Bh_13⟩
end Go.Proofs.Ytbjambmdononiaa.PFnExactPictureParts
namespace Go.Proofs.Ytbjambmdononiaa.PFnExactPictureParts
open Go.RowKit Go.Proofs.YtbjambmdononiaaW.PrintWords Go.Proofs.YtbjambmdononiaaW.PrintLast Go.Proofs.YtbjambmdononiaaW.PrintMore
attribute [local go_sem] max2_int min2_int max_two min_two max_three min_three max_four min_four
set_option linter.unusedVariables false
set_option linter.unusedSimpArgs false
def laws_eqSeq.f (k : Nat) (a0_0 : Int) (a0_1 : Int) (l0_2 : List Int) (l0_3 : List Int) (a1_0 : Int) (a1_1 : Int) (l1_2 : List Int) (l1_3 : List Int) : Option (Bool) := if a0_0 = a1_0 then (if a0_1 = a1_1 then ((laws_eqIntS.f k l0_2 l1_2).bind fun t399 => (if t399 = true then ((laws_eqIntS.f k l0_3 l1_3).bind fun t400 => (if t400 = true then (some true) else (some false))) else (some false))) else (some false)) else (some false)
theorem laws_eqSeq.mono : ∀ a0 a1 a2 a3 a4 a5 a6 a7 k, LeO (laws_eqSeq.f k a0 a1 a2 a3 a4 a5 a6 a7) (laws_eqSeq.f (k + 1) a0 a1 a2 a3 a4 a5 a6 a7) := by
 intro a0 a1 a2 a3 a4 a5 a6 a7 k; unfold laws_eqSeq.f
 repeat' first
   | (with_reducible exact laws_eqIntS.mono _ _ _)
   | (with_reducible exact LeO.refl _)
   | (with_reducible exact LeO.none _)
   | (with_reducible refine LeO.ite ?_ ?_)
   | (with_reducible refine LeO.bind ?_ (fun _ => ?_))
   | exact laws_eqIntS.mono _ _ _
   | exact LeO.none _
   | refine LeO.ite ?_ ?_
   | refine LeO.bind ?_ (fun _ => ?_)
set_option maxHeartbeats 8000000 in
set_option maxRecDepth 100000 in
theorem laws_eqSeq.calls (k : Nat) (a0_0 : Int) (a0_1 : Int) (A0_2 : Option Addr) (c0_2 : Nat) (l0_2 : List Int) (A0_3 : Option Addr) (c0_3 : Nat) (l0_3 : List Int) (a1_0 : Int) (a1_1 : Int) (A1_2 : Option Addr) (c1_2 : Nat) (l1_2 : List Int) (A1_3 : Option Addr) (c1_3 : Nat) (l1_3 : List Int) (r : Bool) (w : World) (hr0_2 : Kd.C (Kd.int .i64) w A0_2 l0_2.length l0_2) (hc0_2 : l0_2.length ≤ c0_2) (hr0_3 : Kd.C (Kd.int .i64) w A0_3 l0_3.length l0_3) (hc0_3 : l0_3.length ≤ c0_3) (hr1_2 : Kd.C (Kd.int .i64) w A1_2 l1_2.length l1_2) (hc1_2 : l1_2.length ≤ c1_2) (hr1_3 : Kd.C (Kd.int .i64) w A1_3 l1_3.length l1_3) (hc1_3 : l1_3.length ≤ c1_3) (h : laws_eqSeq.f k a0_0 a0_1 l0_2 l0_3 a1_0 a1_1 l1_2 l1_3 = some r) :
  Calls Try.prog 23 #[.agg #[.int .i64 a0_0, .int .i64 a0_1, .slice A0_2 l0_2.length c0_2, .slice A0_3 l0_3.length c0_3], .agg #[.int .i64 a1_0, .int .i64 a1_1, .slice A1_2 l1_2.length c1_2, .slice A1_3 l1_3.length c1_3]] w fun e w' => e = .returned (.bool r) ∧ Below w.heap.size w w' := by
 have hu33 := Try.underlying33; have HR0_2 := Aside0.mk hr0_2; have HC0_2 := Aside0.mk hc0_2; clear hr0_2 hc0_2; have HR0_3 := Aside0.mk hr0_3; have HC0_3 := Aside0.mk hc0_3; clear hr0_3 hc0_3; have HR1_2 := Aside0.mk hr1_2; have HC1_2 := Aside0.mk hc1_2; clear hr1_2 hc1_2; have HR1_3 := Aside0.mk hr1_3; have HC1_3 := Aside0.mk hc1_3; clear hr1_3 hc1_3; have HB := Aside0.mk (Below.refl w.heap.size w); have H : (if a0_0 = a1_0 then (if a0_1 = a1_1 then ((laws_eqIntS.f k l0_2 l1_2).bind fun t399 => (if t399 = true then ((laws_eqIntS.f k l0_3 l1_3).bind fun t400 => (if t400 = true then (some true) else (some false))) else (some false))) else (some false)) else (some false)) = some r := h; clear h; have HC3 := Aside0.mk H; clear H; go_enter Try.func23, Try.ntmps23; go_upto_if 9 with (first | ((with_reducible refine gate_dst (N := 2) rfl ?_); refine bx_ (N := 2) (cs := #[.int .i64 a0_0, .int .i64 a0_1, .slice A0_2 l0_2.length c0_2, .slice A0_3 l0_3.length c0_3]) (t := 33) ?_; intro gb397 hg w4 hbox hb; have BK397 := Aside0.mk (hbox); have GW397 := gw_ hg hb_; have GE397 := gw_ hg hb_; replace HB := Aside0.mk (below_step hb_ hb); clear hb hbox hg) | ((with_reducible refine gate_dst (N := 3) rfl ?_); refine bx_ (N := 3) (cs := #[.int .i64 a1_0, .int .i64 a1_1, .slice A1_2 l1_2.length c1_2, .slice A1_3 l1_3.length c1_3]) (t := 33) ?_; intro gb398 hg w5 hbox hb; have BK398 := Aside0.mk (hbox); have GW398 := gw_ hg hb_; have GE398 := gw_ hg hb_; replace HB := Aside0.mk (below_step hb_ hb); obtain ⟨NB397_398, NB398_397, BK397⟩ := nb_ hg hb BK397; clear hb hbox hg; have hnb6 := NB397_398.out; have hnc6 := NB398_397.out; have hz7 := bc4_ BK397.out; have hz8 := bc4_ BK398.out))
 (try simp only [Act.put, List.setIfInBounds_toArray, List.set_cons_zero, List.set_cons_succ]); have H := HC3.out; clear HC3; by_cases c9 : a0_0 = a1_0
 ·rw [if_pos c9] at H
  have c9b0 : (a0_0 == a1_0) = true := beq_iff_eq.mpr c9; have c9b1 : (a0_0 != a1_0) = false := bne_eq_false_iff_eq.mpr c9; clear c9; (first | rw [c9b0] | (simp only [i64_w, i32_w]; rw [c9b0]) | skip); by_cases c10 : a0_1 = a1_1
  ·rw [if_pos c10] at H
   have c10b0 : (a0_1 == a1_1) = true := beq_iff_eq.mpr c10; have c10b1 : (a0_1 != a1_1) = false := bne_eq_false_iff_eq.mpr c10; clear c10; replace H := Option.bind_eq_some_iff.mp H; obtain ⟨t399, A110, H⟩ := H; try dsimp only at H
   have A11 := Aside0.mk A110; clear A110; have HC12 := Aside0.mk H; clear H; have hnb13 := NB397_398.out; have hnc13 := NB398_397.out; have hz14 := bc4_ BK397.out; have hz15 := bc4_ BK398.out; go_upto_if 20 with (first | ((with_reducible refine gate_callee (f := 82) rfl ?_); refine gA_ (some 19) Try.func82 (laws_eqIntS.calls _ _ _ _ _ _ _ _ _ ?side1 ?side2 ?side3 ?side4 A11.out) ?_; (case side1 => repeat (first | exact (Kd.C_below HR0_2.out HB.out) | (with_reducible refine Kd.C_alloc ?_ _) | (with_reducible refine Kd.C_drewN ?_ _) | (with_reducible refine Kd.C_drew ?_))); (case side2 => exact HC0_2.out); (case side3 => repeat (first | exact (Kd.C_below HR1_2.out HB.out) | (with_reducible refine Kd.C_alloc ?_ _) | (with_reducible refine Kd.C_drewN ?_ _) | (with_reducible refine Kd.C_drew ?_))); (case side4 => exact HC1_2.out); rintro e w' ⟨rfl, ⟨nd, rfl⟩⟩; refine ⟨_, rfl, ?_⟩))
   (try simp only [Act.put, List.setIfInBounds_toArray, List.set_cons_zero, List.set_cons_succ]); have H := HC12.out; clear HC12; by_cases c16 : t399 = true
   ·subst c16
    rw [if_pos rfl] at H; replace H := Option.bind_eq_some_iff.mp H; obtain ⟨t400, A170, H⟩ := H; try dsimp only at H
    have A17 := Aside0.mk A170; clear A170; have HC18 := Aside0.mk H; clear H; have hnb19 := NB397_398.out; have hnc19 := NB398_397.out; have hz20 := bc4_ BK397.out; have hz21 := bc4_ BK398.out; go_upto_if 26 with (first | ((with_reducible refine gate_callee (f := 82) rfl ?_); refine gA_ (some 25) Try.func82 (laws_eqIntS.calls _ _ _ _ _ _ _ _ _ ?side1 ?side2 ?side3 ?side4 A17.out) ?_; (case side1 => repeat (first | exact (Kd.C_below HR0_3.out hb_) | (with_reducible refine Kd.C_alloc ?_ _) | (with_reducible refine Kd.C_drewN ?_ _) | (with_reducible refine Kd.C_drew ?_))); (case side2 => exact HC0_3.out); (case side3 => repeat (first | exact (Kd.C_below HR1_3.out hb_) | (with_reducible refine Kd.C_alloc ?_ _) | (with_reducible refine Kd.C_drewN ?_ _) | (with_reducible refine Kd.C_drew ?_))); (case side4 => exact HC1_3.out); rintro e w' ⟨rfl, ⟨nd, rfl⟩⟩; refine ⟨_, rfl, ?_⟩))
    (try simp only [Act.put, List.setIfInBounds_toArray, List.set_cons_zero, List.set_cons_succ]); have H := HC18.out; clear HC18; by_cases c22 : t400 = true
    ·subst c22
     rw [if_pos rfl] at H; obtain rfl := Option.some.inj H; go_wp2; go_ret; exact ⟨Bh_3, hb_⟩
    ·replace c22 := Bool.eq_false_iff.mpr c22
     subst c22; rw [if_neg (show ¬ (false = true) by decide)] at H; obtain rfl := Option.some.inj H; go_wp2; go_ret; exact ⟨Bh_3, hb_⟩
   ·replace c16 := Bool.eq_false_iff.mpr c16
    subst c16; rw [if_neg (show ¬ (false = true) by decide)] at H; obtain rfl := Option.some.inj H; go_wp2; go_ret; exact ⟨Bh_3, hb_⟩
  ·rw [if_neg c10] at H
   have c10b0 : (a0_1 == a1_1) = false := beq_eq_false_iff_ne.mpr c10; have c10b1 : (a0_1 != a1_1) = true := bne_iff_ne.mpr c10; obtain rfl := Option.some.inj H; have hnb23 := NB397_398.out; have hnc23 := NB398_397.out; have hz24 := bc4_ BK397.out; have hz25 := bc4_ BK398.out; go_wp2; go_ret; exact ⟨Bh_3, hb_⟩
 ·rw [if_neg c9] at H
  have c9b0 : (a0_0 == a1_0) = false := beq_eq_false_iff_ne.mpr c9; have c9b1 : (a0_0 != a1_0) = true := bne_iff_ne.mpr c9; (first | rw [c9b0] | (simp only [i64_w, i32_w]; rw [c9b0]) | skip); obtain rfl := Option.some.inj H; go_wp2; go_ret; exact ⟨Bh_3, hb_⟩
end Go.Proofs.Ytbjambmdononiaa.PFnExactPictureParts
namespace Go.Proofs.Ytbjambmdononiaa.PFnExactPictureParts
open Go.RowKit Go.Proofs.YtbjambmdononiaaW.PrintWords Go.Proofs.YtbjambmdononiaaW.PrintLast Go.Proofs.YtbjambmdononiaaW.PrintMore
attribute [local go_sem] max2_int min2_int max_two min_two max_three min_three max_four min_four
set_option linter.unusedVariables false
set_option linter.unusedSimpArgs false
def laws_eqStringS.l0 : Nat → List ByteArray → List ByteArray → Int → Option (Bool)
 | 0, _, _, _ => none
 | k + 1, x0, x1, x5 => if x5 < (x0.length : Int) then (if 0 ≤ x5 then (if x5 < (x1.length : Int) then (if (rdOf ByteArray.empty x0 x5).toList = (rdOf ByteArray.empty x1 x5).toList then (laws_eqStringS.l0 k x0 x1 (wrap64 (x5 + 1))) else (some false)) else (none)) else (none)) else (some true)
def laws_eqStringS.f (k : Nat) (l0 : List ByteArray) (l1 : List ByteArray) : Option (Bool) := if (l0.length : Int) = (l1.length : Int) then (laws_eqStringS.l0 k l0 l1 0) else (some false)
theorem laws_eqStringS.mono_l : ∀ k, (∀ y0 y1 y2, LeO (laws_eqStringS.l0 k y0 y1 y2) (laws_eqStringS.l0 (k + 1) y0 y1 y2))
 | 0 => fun _ _ _ r h => by simp [laws_eqStringS.l0] at h
 | k + 1 => by
  have ih0 := laws_eqStringS.mono_l k
  ·intro y0 y1 y2
   unfold laws_eqStringS.l0
   repeat' first
   | (with_reducible exact ih0 _ _ _)
   | (with_reducible exact LeO.refl _)
   | (with_reducible exact LeO.none _)
   | (with_reducible refine LeO.ite ?_ ?_)
   | (with_reducible refine LeO.bind ?_ (fun _ => ?_))
   | exact ih0 _ _ _
   | exact LeO.none _
   | refine LeO.ite ?_ ?_
   | refine LeO.bind ?_ (fun _ => ?_)
theorem laws_eqStringS.mono : ∀ a0 a1 k, LeO (laws_eqStringS.f k a0 a1) (laws_eqStringS.f (k + 1) a0 a1) := by
 intro a0 a1 k; have ih0 := laws_eqStringS.mono_l k; unfold laws_eqStringS.f
 repeat' first
   | (with_reducible exact ih0 _ _ _)
   | (with_reducible exact LeO.refl _)
   | (with_reducible exact LeO.none _)
   | (with_reducible refine LeO.ite ?_ ?_)
   | (with_reducible refine LeO.bind ?_ (fun _ => ?_))
   | exact ih0 _ _ _
   | exact LeO.none _
   | refine LeO.ite ?_ ?_
   | refine LeO.bind ?_ (fun _ => ?_)
set_option maxHeartbeats 8000000 in
set_option maxRecDepth 100000 in
theorem laws_eqStringS.calls (k : Nat) (A0 : Option Addr) (c0 : Nat) (l0 : List ByteArray) (A1 : Option Addr) (c1 : Nat) (l1 : List ByteArray) (r : Bool) (w : World) (hr0 : Kd.C Kd.string w A0 l0.length l0) (hc0 : l0.length ≤ c0) (hr1 : Kd.C Kd.string w A1 l1.length l1) (hc1 : l1.length ≤ c1) (h : laws_eqStringS.f k l0 l1 = some r) :
  Calls Try.prog 24 #[.slice A0 l0.length c0, .slice A1 l1.length c1] w fun e w' => e = .returned (.bool r) ∧ Drawn0 w w' := by
 have HR0 := Aside0.mk hr0; have HC0 := Aside0.mk hc0; clear hr0 hc0; have HR1 := Aside0.mk hr1; have HC1 := Aside0.mk hc1; clear hr1 hc1; have H : (if (l0.length : Int) = (l1.length : Int) then (laws_eqStringS.l0 k l0 l1 0) else (some false)) = some r := h; clear h; by_cases c3 : (l0.length : Int) = (l1.length : Int)
 ·rw [if_pos c3] at H
  have c3b0 : ((l0.length : Int) == (l1.length : Int)) = true := beq_iff_eq.mpr c3; have c3b1 : ((l0.length : Int) != (l1.length : Int)) = false := bne_eq_false_iff_eq.mpr c3; have c3b2 : (l0.length == l1.length) = true := by first | simpa using c3 | (simp at c3 ⊢; omega)
  clear c3; have H' := Aside0.mk H; clear H; go_enter Try.func24, Try.ntmps24; go_wp2
  repeat (go_quiet (fail); try go_wp2)
  go_loopg [5] k (fun kq v5 w' => ∃ (x5_1 : Int), v5 = .int .i64 x5_1 ∧ Aside0 (laws_eqStringS.l0 kq l0 l1 x5_1 = some r) ∧ Aside0 (kq ≤ k) ∧ Drawn0 w w')
  case atStart => exact ⟨(0), Bh_5, H', ⟨Nat.le_refl _⟩, Bh_13⟩
  case round =>
   clear H'; try clear c1; try clear c2; try clear p2; try clear c3; try clear c3b0; try clear c3b1; try clear c3b2
   obtain ⟨x5_1, rfl, HA, HK1, ⟨m1, rfl⟩⟩ := hrel; cases gk with
   | zero => exact absurd HA.out (by simp [laws_eqStringS.l0])
   | succ k1 =>
    have H := HA.out; clear HA; simp only [laws_eqStringS.l0] at H; by_cases c4 : x5_1 < (l0.length : Int)
    ·rw [if_pos c4] at H
     have c4b0 : decide (x5_1 < (l0.length : Int)) = true := decide_eq_true c4; clear c4; by_cases c5 : 0 ≤ x5_1
     ·rw [if_pos c5] at H
      have c5b0 : decide (0 ≤ x5_1) = true := decide_eq_true c5; clear c5; by_cases c6 : x5_1 < (l1.length : Int)
      ·rw [if_pos c6] at H
       have c6b0 : decide (x5_1 < (l1.length : Int)) = true := decide_eq_true c6; clear c6; by_cases c7 : (rdOf ByteArray.empty l0 x5_1).toList = (rdOf ByteArray.empty l1 x5_1).toList
       ·rw [if_pos c7] at H
        have c7b0 : ((rdOf ByteArray.empty l0 x5_1).toList == (rdOf ByteArray.empty l1 x5_1).toList) = true := beq_iff_eq.mpr c7; have c7b1 : ((rdOf ByteArray.empty l0 x5_1).toList != (rdOf ByteArray.empty l1 x5_1).toList) = false := bne_eq_false_iff_eq.mpr c7; clear c7; have H' := Aside0.mk H; clear H; have p401 : 0 ≤ (x5_1 : Int) := of_decide_eq_true Bh_4; have q401 : x5_1 < (l0.length : Int) := of_decide_eq_true Bh_4; obtain ⟨ad401, e401, hx401_0⟩ := Kd.at_string HR0.out x5_1 p401 q401; cases e401; replace p401 := eq_true p401; replace q401 := eq_true q401; have p402 : 0 ≤ (x5_1 : Int) := of_decide_eq_true Bh_4; have q402 : x5_1 < (l1.length : Int) := of_decide_eq_true Bh_4; obtain ⟨ad402, e402, hx402_0⟩ := Kd.at_string HR1.out x5_1 p402 q402; cases e402; replace p402 := eq_true p402; replace q402 := eq_true q402; go_wp2
        repeat (go_quiet (fail); try go_wp2)
        go_roundg k1
        case measure => have := HK1.out; omega
        case rel => exact ⟨(wrap64 (x5_1 + 1)), Bh_5, H', ⟨(by have := HK1.out; omega)⟩, Bh_13⟩
       ·rw [if_neg c7] at H
        have c7b0 : ((rdOf ByteArray.empty l0 x5_1).toList == (rdOf ByteArray.empty l1 x5_1).toList) = false := beq_eq_false_iff_ne.mpr c7; have c7b1 : ((rdOf ByteArray.empty l0 x5_1).toList != (rdOf ByteArray.empty l1 x5_1).toList) = true := bne_iff_ne.mpr c7; obtain rfl := Option.some.inj H; have p401 : 0 ≤ (x5_1 : Int) := of_decide_eq_true Bh_4; have q401 : x5_1 < (l0.length : Int) := of_decide_eq_true Bh_4; obtain ⟨ad401, e401, hx401_0⟩ := Kd.at_string HR0.out x5_1 p401 q401; cases e401; replace p401 := eq_true p401; replace q401 := eq_true q401; have p402 : 0 ≤ (x5_1 : Int) := of_decide_eq_true Bh_4; have q402 : x5_1 < (l1.length : Int) := of_decide_eq_true Bh_4; obtain ⟨ad402, e402, hx402_0⟩ := Kd.at_string HR1.out x5_1 p402 q402; cases e402; replace p402 := eq_true p402; replace q402 := eq_true q402; go_wp2
        repeat (go_quiet (fail); try go_wp2)
        go_ret; exact ⟨Bh_5, Bh_13⟩
      ·rw [if_neg c6] at H
       exact absurd H (by simp)
     ·rw [if_neg c5] at H
      exact absurd H (by simp)
    ·rw [if_neg c4] at H
     have c4b0 : decide (x5_1 < (l0.length : Int)) = false := decide_eq_false c4; clear c4; obtain rfl := Option.some.inj H; go_wp2
     repeat (go_quiet (fail); try go_wp2)
     go_ret; exact ⟨Bh_5, Bh_13⟩
 ·rw [if_neg c3] at H
  have c3b0 : ((l0.length : Int) == (l1.length : Int)) = false := beq_eq_false_iff_ne.mpr c3; have c3b1 : ((l0.length : Int) != (l1.length : Int)) = true := bne_iff_ne.mpr c3; have c3b2 : (l0.length == l1.length) = false := by first | simpa using c3 | (simp at c3 ⊢; omega)
  obtain rfl := Option.some.inj H; go_enter Try.func24, Try.ntmps24; go_wp2
  repeat (go_quiet (fail); try go_wp2)
  go_ret; exact ⟨Bh_5, Bh_13⟩
end Go.Proofs.Ytbjambmdononiaa.PFnExactPictureParts
namespace Go.Proofs.Ytbjambmdononiaa.PFnExactPictureParts
open Go.RowKit Go.Proofs.YtbjambmdononiaaW.PrintWords Go.Proofs.YtbjambmdononiaaW.PrintLast Go.Proofs.YtbjambmdononiaaW.PrintMore
attribute [local go_sem] max2_int min2_int max_two min_two max_three min_three max_four min_four
set_option linter.unusedVariables false
set_option linter.unusedSimpArgs false
def laws_markIntS.l0 : Nat → List Int → Int → Int → Option (Int × List Int)
 | 0, _, _, _ => none
 | k + 1, x0, x1, x5 => if x5 < (x0.length : Int) then (if 0 ≤ x5 then (laws_markIntS.l0 k (x0.set (x5 : Int).toNat x1) (wrap64 (x1 + 1)) (wrap64 (x5 + 1))) else (none)) else (some (x1, x0))
def laws_markIntS.f (k : Nat) (l0 : List Int) (a1 : Int) : Option (Int × List Int) := laws_markIntS.l0 k l0 a1 0
theorem laws_markIntS.mono_l : ∀ k, (∀ y0 y1 y2, LeO (laws_markIntS.l0 k y0 y1 y2) (laws_markIntS.l0 (k + 1) y0 y1 y2))
 | 0 => fun _ _ _ r h => by simp [laws_markIntS.l0] at h
 | k + 1 => by
  have ih0 := laws_markIntS.mono_l k
  ·intro y0 y1 y2
   unfold laws_markIntS.l0
   repeat' first
   | (with_reducible exact ih0 _ _ _)
   | (with_reducible exact LeO.refl _)
   | (with_reducible exact LeO.none _)
   | (with_reducible refine LeO.ite ?_ ?_)
   | (with_reducible refine LeO.bind ?_ (fun _ => ?_))
   | exact ih0 _ _ _
   | exact LeO.none _
   | refine LeO.ite ?_ ?_
   | refine LeO.bind ?_ (fun _ => ?_)
theorem laws_markIntS.mono : ∀ a0 a1 k, LeO (laws_markIntS.f k a0 a1) (laws_markIntS.f (k + 1) a0 a1) := by
 intro a0 a1 k; have ih0 := laws_markIntS.mono_l k; unfold laws_markIntS.f
 repeat' first
   | (with_reducible exact ih0 _ _ _)
   | (with_reducible exact LeO.refl _)
   | (with_reducible exact LeO.none _)
   | (with_reducible refine LeO.ite ?_ ?_)
   | (with_reducible refine LeO.bind ?_ (fun _ => ?_))
   | exact ih0 _ _ _
   | exact LeO.none _
   | refine LeO.ite ?_ ?_
   | refine LeO.bind ?_ (fun _ => ?_)
set_option maxHeartbeats 8000000 in
set_option maxRecDepth 100000 in
theorem laws_markIntS.calls (k : Nat) (P0_ : Nat → Prop) (u9000_ : Value) (l0 : List Int) (a1 : Int) (r1 : Int) (r2 : List Int) (w0 w : World) (hB : Below w0.heap.size w0 w) (ho0 : Kd.R (Kd.int .i64) 3 w w0.heap.size P0_ u9000_ l0) (h : laws_markIntS.f k l0 a1 = some (r1, r2)) :
  Calls Try.prog 83 #[u9000_, .int .i64 a1] w fun e w' => e = .returned (.int .i64 r1) ∧ Kd.R (Kd.int .i64) 3 w' w0.heap.size (fun k_ => (P0_ k_ ∨ w.heap.size ≤ k_)) u9000_ r2 ∧ Below w0.heap.size w0 w' ∧ Kept w w' (fun k_ => P0_ k_) := by
 have HO0 := Aside0.mk (show Kd.R (Kd.int .i64) 3 w w0.heap.size (fun k_ => (P0_ k_ ∨ w.heap.size ≤ k_)) u9000_ l0 from Kd.R_mono ho0 (fun k_ hk => (.inl hk))); have HK := Aside0.mk (Kept.refl w (fun k_ => P0_ k_)); have HW0 := Aside0.mk hB.size; have HB := Aside0.mk hB; clear hB; have H : (laws_markIntS.l0 k l0 a1 0) = some (r1, r2) := h; clear h; have H' := Aside0.mk H; clear H; go_enter Try.func83, Try.ntmps83; go_wp2; go_loopg [1, 5] k (fun kq v1 v5 w' => ∃ (x0_1 : List Int) (x1_1 : Int) (x5_1 : Int), v1 = .int .i64 x1_1 ∧ v5 = .int .i64 x5_1 ∧ Aside0 (laws_markIntS.l0 kq x0_1 x1_1 x5_1 = some (r1, r2)) ∧ Aside0 (kq ≤ k) ∧ Aside0 (Kd.R (Kd.int .i64) 3 w' w0.heap.size (fun k_ => (P0_ k_ ∨ w.heap.size ≤ k_)) u9000_ x0_1) ∧ Aside0 (Kept w w' (fun k_ => P0_ k_)) ∧ Aside0 (Below w0.heap.size w0 w'))
 case atStart => exact ⟨(l0), (a1), (0), Bh_5, Bh_5, H', ⟨Nat.le_refl _⟩, ⟨(by (with_reducible repeat (first | apply Kd.R_alloc | apply Kd.R_drewN | apply Kd.R_drew)); exact HO0.out)⟩, ⟨Bh_14⟩, ⟨hb_⟩⟩
 case round =>
  clear H'; try clear p2
  obtain ⟨x0_1, x1_1, x5_1, rfl, rfl, HA, HK1, HO_0, HK, HB⟩ := hrel; cases gk with
  | zero => exact absurd HA.out (by simp [laws_markIntS.l0])
  | succ k1 =>
   have H := HA.out; clear HA; simp only [laws_markIntS.l0] at H; by_cases c3 : x5_1 < (x0_1.length : Int)
   ·rw [if_pos c3] at H
    have c3b0 : decide (x5_1 < (x0_1.length : Int)) = true := decide_eq_true c3; clear c3; by_cases c4 : 0 ≤ x5_1
    ·rw [if_pos c4] at H
     have c4b0 : decide (0 ≤ x5_1) = true := decide_eq_true c4; clear c4; obtain ⟨y403, hy403⟩ : ∃ y_ : List Int, y_ = (x0_1.set (x5_1 : Int).toNat x1_1) := ⟨_, rfl⟩; replace H : (laws_markIntS.l0 k1 y403 (wrap64 (x1_1 + 1)) (wrap64 (x5_1 + 1))) = some (r1, r2) := by first | (rw [hy403]; with_reducible exact H) | (have H2_ := (Option.bind_some _ _).symm.trans H; rw [hy403]; with_reducible exact H2_) | (have H2_ := (Option.bind_some _ _).symm.trans H; with_reducible exact H2_) | with_reducible exact H | (rw [hy403]; exact H) | exact H
     have Ny403 := Aside0.mk hy403; clear hy403; have H' := Aside0.mk H; clear H; obtain ⟨Ao6, co6, eo6⟩ := Kd.R_slice HO_0.out; subst eo6; have p5 : 0 ≤ (x5_1 : Int) := of_decide_eq_true Bh_4; have q5 : (x5_1 : Int) < ((x0_1.length : Int) : Int) := of_decide_eq_true Bh_4; obtain ⟨go5, co5, eo5, gb5, gl5, cl5, HG5⟩ := Kd.R_form HO_0.out (by omega); (first | cases eo5 | (injection eo5 with ea_ en_ ec_; (first | subst ea_ | (injection ea_ with ea_; subst ea_)); subst ec_; clear en_)); have GB5 := Aside0.mk gb5; have GG5 := Aside0.mk HG5; clear gb5 gl5 HG5; have HMgo5 := Aside0.mk (show (P0_ go5 ∨ w.heap.size ≤ go5) from (HO_0.out.1 _ rfl)); obtain ⟨hx5_0, hf5_0⟩ := Kd.R_celln 0 HO_0.out (x5_1 : Int) p5 q5; replace p5 := eq_true p5; replace q5 := eq_true q5; have HP7 := Kd.R_putg HO_0.out (x5_1 : Int) x1_1; go_wp2_with (first | ((with_reducible refine gate_store (t := 3) (p := 15) rfl ?_); refine store_event (t := 3) (p := 15) (v := ?vo_w8) (w1 := (wr.setCell ⟨go5, (x5_1 : Int).toNat, none⟩ (.int .i64 x1_1))) ?hg ?ho ?hn ?hr ?_; (case ho => rfl); (case hg => rfl); (case hn => rfl); (case hr => first | (go_simp; done) | (go_simp; rfl)); intro w8 hw; have hg : wr.grownBy w8 (some go5) := (by rw [hw]; exact HP7.2); have hp_ : Kd.R (Kd.int .i64) 3 w8 w0.heap.size (fun k_ => (P0_ k_ ∨ w.heap.size ≤ k_)) (.slice (some ⟨go5, 0, none⟩) x0_1.length co6) y403 := (by rw [hw, Ny403.out]; exact HP7.1); clear HP7; replace HB := Aside0.mk ((by rw [hw]; exact below_set (HB.out) GB5.out : Below w0.heap.size w0 w8)); replace HK := Aside0.mk (Kept.of_grown (S := (fun k_ => P0_ k_)) hg Bh_14 (fun k_ e_ => (HO_0.out.1 k_ e_))); replace HO_0 := Aside0.mk (hp_); clear hg hw hp_)); go_roundg k1
     case measure => have := HK1.out; omega
     case rel => exact ⟨(y403), (wrap64 (x1_1 + 1)), (wrap64 (x5_1 + 1)), Bh_5, Bh_5, H', ⟨(by have := HK1.out; omega)⟩, ⟨Bh_15⟩, ⟨Bh_14⟩, ⟨hb_⟩⟩
    ·rw [if_neg c4] at H
     exact absurd H (by simp)
   ·rw [if_neg c3] at H
    have c3b0 : decide (x5_1 < (x0_1.length : Int)) = false := decide_eq_false c3; clear c3; simp only [Option.some.injEq, Prod.mk.injEq] at H; obtain ⟨rfl, rfl⟩ := H; obtain ⟨Ao9, co9, eo9⟩ := Kd.R_slice HO_0.out; subst eo9; go_wp2; go_ret; exact ⟨Bh_3, Bh_15, hb_, Bh_14⟩
end Go.Proofs.Ytbjambmdononiaa.PFnExactPictureParts
