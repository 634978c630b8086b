-- functions and their walks: written by a program of this claim's
import Derived.Test.YtjmhhgnknjfnlaaProg
import Derived.Test.YtjmhhgnknjfnlaaVFnExactReadLayout
import Derived.Test.YtjmhhgnknjfnlaaZFnExactReadLayouty2
namespace Go.Proofs.Ytjmhhgnknjfnlaa.PFnExactReadLayout
open Go.RowKit Go.Proofs.YtjmhhgnknjfnlaaW.PrintWords Go.Proofs.YtjmhhgnknjfnlaaW.PrintLast Go.Proofs.YtjmhhgnknjfnlaaW.PrintMore
attribute [local go_sem] max2_int min2_int max_two min_two max_three min_three max_four min_four
set_option linter.unusedVariables false
set_option linter.unusedSimpArgs false
theorem Bd_0 {P : Prop} (h : P := by (try simp only [List.map_toArray, List.map_cons, List.map_nil]); first | done | rfl | (simp only [List.length_drop, List.length_take]; rfl)) : P := h
theorem Bd_1 {P : Prop} (h : P := by repeat (first | (with_reducible first | exact HB.out | apply below_alloc | apply pw_below_drewN | apply below_drew1) | exact HB.out)) : P := h
theorem Bd_2 {P : Prop} (h : P := by repeat (first | (with_reducible first | exact HB.out | apply below_alloc | apply pw_below_drewN | apply below_drew1 | refine below_set ?_ GE294.out | refine below_set ?_ GE305.out) | exact HB.out)) : P := h
theorem Bd_3 {P : Prop} (h : P := by repeat (first | (with_reducible first | exact HB.out | apply below_alloc | apply pw_below_drewN | apply below_drew1 | refine below_set ?_ GE266.out) | exact HB.out)) : P := h
theorem Bd_4 {P : Prop} (h : P := by repeat (first | (with_reducible first | exact HB.out | apply below_alloc | apply pw_below_drewN | apply below_drew1 | refine below_set ?_ GE266.out | refine below_set ?_ GE267.out) | exact HB.out)) : P := h
theorem Bd_5 {P : Prop} (h : P := by (with_reducible repeat (first | refine blk_drewN ?_ _ | refine blk_drew ?_ | refine blk_alloc ?_ _)); exact BK294.out) : P := h
theorem Bd_6 {P : Prop} (h : P := by (with_reducible repeat (first | refine blk_drewN ?_ _ | refine blk_drew ?_ | refine blk_alloc ?_ _)); exact BK305.out) : P := h
theorem Bd_7 {P : Prop} (h : P := by (with_reducible repeat (first | refine blk_drewN ?_ _ | refine blk_drew ?_ | refine blk_alloc ?_ _)); exact BK266.out) : P := h
theorem Bd_8 {P : Prop} (h : P := by (with_reducible repeat (first | apply Kd.R_alloc | apply Kd.R_drewN | apply Kd.R_drew)); exact (Kd.R_mono (Kd.R_far (p := ⟨gb322, 2, none⟩) (Kd.R_far (p := ⟨gb322, 1, none⟩) (Kd.R_far (p := ⟨gb322, 0, none⟩) (Kd.R_types HO_295000.out BK322.out (by decide)) (fun _ hk => hk.2) (.slice Ao48 t312.length co48)) (fun _ hk => hk.2) (.slice Ao52 t315.length co52)) (fun _ hk => hk.2) (.slice Ao53 t318.length co53)) (fun _ h_ => h_.1))) : P := h
theorem Bd_9 {P : Prop} (h : P := by (with_reducible repeat (first | apply Kd.R_alloc | apply Kd.R_drewN | apply Kd.R_drew)); exact (Kd.R_mono (Kd.R_far (p := ⟨gb322, 2, none⟩) (Kd.R_far (p := ⟨gb322, 1, none⟩) (Kd.R_far (p := ⟨gb322, 0, none⟩) (Kd.R_types HO_295001.out BK322.out (by decide)) (fun _ hk => hk.2) (.slice Ao48 t312.length co48)) (fun _ hk => hk.2) (.slice Ao52 t315.length co52)) (fun _ hk => hk.2) (.slice Ao53 t318.length co53)) (fun _ h_ => h_.1))) : P := h
theorem Bd_10 {P : Prop} (h : P := by (with_reducible repeat (first | apply Kd.R_alloc | apply Kd.R_drewN | apply Kd.R_drew)); exact (Kd.R_mono (Kd.R_far (p := ⟨gb322, 2, none⟩) (Kd.R_far (p := ⟨gb322, 1, none⟩) (Kd.R_far (p := ⟨gb322, 0, none⟩) (Kd.R_types HO_295002.out BK322.out (by decide)) (fun _ hk => hk.2) (.slice Ao48 t312.length co48)) (fun _ hk => hk.2) (.slice Ao52 t315.length co52)) (fun _ hk => hk.2) (.slice Ao53 t318.length co53)) (fun _ h_ => h_.1))) : P := h
theorem Bd_11 {P : Prop} (h : P := by (with_reducible repeat (first | apply Kd.R_alloc | apply Kd.R_drewN | apply Kd.R_drew)); exact (Kd.R_mono (Kd.R_far (p := ⟨gb305, 2, none⟩) (Kd.R_far (p := ⟨gb305, 1, none⟩) (Kd.R_far (p := ⟨gb305, 0, none⟩) (Kd.R_types HO297.out BK305.out (by decide)) (fun _ hk => hk.2) (.slice Ao14 t295.length co14)) (fun _ hk => hk.2) (.slice Ao17 t298.length co17)) (fun _ hk => hk.2) (.slice Ao18 t301.length co18)) (fun _ h_ => h_.1))) : P := h
theorem Bd_12 {P : Prop} (h : P := by (with_reducible repeat (first | apply Kd.R_alloc | apply Kd.R_drewN | apply Kd.R_drew)); exact (Kd.R_mono (Kd.R_far (p := ⟨gb305, 2, none⟩) (Kd.R_far (p := ⟨gb305, 1, none⟩) (Kd.R_far (p := ⟨gb305, 0, none⟩) (Kd.R_types HO300.out BK305.out (by decide)) (fun _ hk => hk.2) (.slice Ao14 t295.length co14)) (fun _ hk => hk.2) (.slice Ao17 t298.length co17)) (fun _ hk => hk.2) (.slice Ao18 t301.length co18)) (fun _ h_ => h_.1))) : P := h
theorem Bd_13 {P : Prop} (h : P := by (with_reducible repeat (first | apply Kd.R_alloc | apply Kd.R_drewN | apply Kd.R_drew)); exact (Kd.R_mono (Kd.R_far (p := ⟨gb305, 2, none⟩) (Kd.R_far (p := ⟨gb305, 1, none⟩) (Kd.R_far (p := ⟨gb305, 0, none⟩) (Kd.R_types HO303.out BK305.out (by decide)) (fun _ hk => hk.2) (.slice Ao14 t295.length co14)) (fun _ hk => hk.2) (.slice Ao17 t298.length co17)) (fun _ hk => hk.2) (.slice Ao18 t301.length co18)) (fun _ h_ => h_.1))) : P := h
theorem Bd_14 {P : Prop} (h : P := by (with_reducible repeat (first | apply Kd.R_alloc | apply Kd.R_drewN | apply Kd.R_drew)); exact (Kd.R_mono (Kd.R_far (p := ⟨gb305, 2, none⟩) (Kd.R_far (p := ⟨gb305, 1, none⟩) (Kd.R_far (p := ⟨gb305, 0, none⟩) (Kd.R_types HO286.out BK305.out (by decide)) (fun _ hk => hk.2) (.slice Ao14 t295.length co14)) (fun _ hk => hk.2) (.slice Ao17 t298.length co17)) (fun _ hk => hk.2) (.slice Ao18 t301.length co18)) (fun _ h_ => h_.1))) : P := h
theorem Bd_15 {P : Prop} (h : P := by (with_reducible repeat (first | apply Kd.R_alloc | apply Kd.R_drewN | apply Kd.R_drew)); exact (Kd.R_mono (Kd.R_far (p := ⟨gb305, 2, none⟩) (Kd.R_far (p := ⟨gb305, 1, none⟩) (Kd.R_far (p := ⟨gb305, 0, none⟩) (Kd.R_types HO289.out BK305.out (by decide)) (fun _ hk => hk.2) (.slice Ao14 t295.length co14)) (fun _ hk => hk.2) (.slice Ao17 t298.length co17)) (fun _ hk => hk.2) (.slice Ao18 t301.length co18)) (fun _ h_ => h_.1))) : P := h
theorem Bd_16 {P : Prop} (h : P := by (with_reducible repeat (first | apply Kd.R_alloc | apply Kd.R_drewN | apply Kd.R_drew)); exact (Kd.R_mono (Kd.R_far (p := ⟨gb305, 2, none⟩) (Kd.R_far (p := ⟨gb305, 1, none⟩) (Kd.R_far (p := ⟨gb305, 0, none⟩) (Kd.R_types HO292.out BK305.out (by decide)) (fun _ hk => hk.2) (.slice Ao14 t295.length co14)) (fun _ hk => hk.2) (.slice Ao17 t298.length co17)) (fun _ hk => hk.2) (.slice Ao18 t301.length co18)) (fun _ h_ => h_.1))) : P := h
theorem Bd_17 {P : Prop} (h : P := by (with_reducible repeat (first | apply Kd.R_alloc | apply Kd.R_drewN | apply Kd.R_drew)); exact (Kd.R_mono (Kd.R_far (p := ⟨gb322, 2, none⟩) (Kd.R_far (p := ⟨gb322, 1, none⟩) (Kd.R_far (p := ⟨gb322, 0, none⟩) (Kd.R_types HO314.out BK322.out (by decide)) (fun _ hk => hk.2) (.slice Ao48 t312.length co48)) (fun _ hk => hk.2) (.slice Ao52 t315.length co52)) (fun _ hk => hk.2) (.slice Ao53 t318.length co53)) (fun _ h_ => h_.1))) : P := h
theorem Bd_18 {P : Prop} (h : P := by (with_reducible repeat (first | apply Kd.R_alloc | apply Kd.R_drewN | apply Kd.R_drew)); exact (Kd.R_mono (Kd.R_far (p := ⟨gb322, 2, none⟩) (Kd.R_far (p := ⟨gb322, 1, none⟩) (Kd.R_far (p := ⟨gb322, 0, none⟩) (Kd.R_types HO317.out BK322.out (by decide)) (fun _ hk => hk.2) (.slice Ao48 t312.length co48)) (fun _ hk => hk.2) (.slice Ao52 t315.length co52)) (fun _ hk => hk.2) (.slice Ao53 t318.length co53)) (fun _ h_ => h_.1))) : P := h
theorem Bd_19 {P : Prop} (h : P := by (with_reducible repeat (first | apply Kd.R_alloc | apply Kd.R_drewN | apply Kd.R_drew)); exact (Kd.R_mono (Kd.R_far (p := ⟨gb322, 2, none⟩) (Kd.R_far (p := ⟨gb322, 1, none⟩) (Kd.R_far (p := ⟨gb322, 0, none⟩) (Kd.R_types HO320.out BK322.out (by decide)) (fun _ hk => hk.2) (.slice Ao48 t312.length co48)) (fun _ hk => hk.2) (.slice Ao52 t315.length co52)) (fun _ hk => hk.2) (.slice Ao53 t318.length co53)) (fun _ h_ => h_.1))) : P := h
theorem Bd_20 {P : Prop} (h : P := by (with_reducible repeat (first | apply Kd.R_alloc | apply Kd.R_drewN | apply Kd.R_drew)); exact (Kd.R_mono (Kd.R_far (p := ⟨gb294, 2, none⟩) (Kd.R_far (p := ⟨gb294, 1, none⟩) (Kd.R_far (p := ⟨gb294, 0, none⟩) (Kd.R_types HO286.out BK294.out (by decide)) (fun _ hk => hk.2) (.slice Ao8 t284.length co8)) (fun _ hk => hk.2) (.slice Ao10 t287.length co10)) (fun _ hk => hk.2) (.slice Ao11 t290.length co11)) (fun _ h_ => h_.1))) : P := h
theorem Bd_21 {P : Prop} (h : P := by (with_reducible repeat (first | apply Kd.R_alloc | apply Kd.R_drewN | apply Kd.R_drew)); exact (Kd.R_mono (Kd.R_far (p := ⟨gb294, 2, none⟩) (Kd.R_far (p := ⟨gb294, 1, none⟩) (Kd.R_far (p := ⟨gb294, 0, none⟩) (Kd.R_types HO289.out BK294.out (by decide)) (fun _ hk => hk.2) (.slice Ao8 t284.length co8)) (fun _ hk => hk.2) (.slice Ao10 t287.length co10)) (fun _ hk => hk.2) (.slice Ao11 t290.length co11)) (fun _ h_ => h_.1))) : P := h
theorem Bd_22 {P : Prop} (h : P := by (with_reducible repeat (first | apply Kd.R_alloc | apply Kd.R_drewN | apply Kd.R_drew)); exact (Kd.R_mono (Kd.R_far (p := ⟨gb294, 2, none⟩) (Kd.R_far (p := ⟨gb294, 1, none⟩) (Kd.R_far (p := ⟨gb294, 0, none⟩) (Kd.R_types HO292.out BK294.out (by decide)) (fun _ hk => hk.2) (.slice Ao8 t284.length co8)) (fun _ hk => hk.2) (.slice Ao10 t287.length co10)) (fun _ hk => hk.2) (.slice Ao11 t290.length co11)) (fun _ h_ => h_.1))) : P := h
theorem Bd_23 {P : Prop} (h : P := by (with_reducible repeat (first | apply Kd.R_alloc | apply Kd.R_drewN | apply Kd.R_drew)); exact HO_295000.out) : P := h
theorem Bd_24 {P : Prop} (h : P := by (with_reducible repeat (first | apply Kd.R_alloc | apply Kd.R_drewN | apply Kd.R_drew)); exact HO_295001.out) : P := h
theorem Bd_25 {P : Prop} (h : P := by (with_reducible repeat (first | apply Kd.R_alloc | apply Kd.R_drewN | apply Kd.R_drew)); exact HO_295002.out) : P := h
theorem Bd_26 {P : Prop} (h : P := by (with_reducible repeat (first | apply Kd.R_alloc | apply Kd.R_drewN | apply Kd.R_drew)); exact HO_306000.out) : P := h
theorem Bd_27 {P : Prop} (h : P := by (with_reducible repeat (first | apply Kd.R_alloc | apply Kd.R_drewN | apply Kd.R_drew)); exact HO_306001.out) : P := h
theorem Bd_28 {P : Prop} (h : P := by (with_reducible repeat (first | apply Kd.R_alloc | apply Kd.R_drewN | apply Kd.R_drew)); exact HO_306002.out) : P := h
theorem Bd_29 {P : Prop} (h : P := by repeat (first | (with_reducible first | exact HB.out | apply below_alloc | apply pw_below_drewN | apply below_drew1 | refine below_set ?_ GE294.out) | exact HB.out)) : P := h
theorem Bd_30 {P : Prop} (h : P := by repeat (first | (with_reducible first | exact HB.out | apply below_alloc | apply pw_below_drewN | apply below_drew1 | refine below_set ?_ GE294.out | refine below_set ?_ GE305.out | refine below_set ?_ GE322.out) | exact HB.out)) : P := h
theorem Bd_31 {P : Prop} (h : P := by (try simp only [List.map_toArray, List.map_cons, List.map_nil]); first | done | (rw [show t308.length = t295.length from (Kd.R_reads' HO_306000.out).1.symm, show t309.length = t298.length from (Kd.R_reads' HO_306001.out).1.symm, show t310.length = t301.length from (Kd.R_reads' HO_306002.out).1.symm] <;> rfl) | rfl | (simp only [List.length_drop, List.length_take]; rfl)) : P := h
theorem Bd_32 {P : Prop} (h : P := by (with_reducible repeat (first | refine blk_drewN ?_ _ | refine blk_drew ?_ | refine blk_alloc ?_ _)); refine blk_put (cs := #[.slice Ao14 t295.length co14, .slice Ao17 t298.length co17, .slice none 0 0]) ?_ 2 _ rfl; (with_reducible repeat (first | refine blk_drewN ?_ _ | refine blk_drew ?_ | refine blk_alloc ?_ _)); refine blk_put (cs := #[.slice Ao14 t295.length co14, .slice none 0 0, .slice none 0 0]) ?_ 1 _ rfl; (with_reducible repeat (first | refine blk_drewN ?_ _ | refine blk_drew ?_ | refine blk_alloc ?_ _)); refine blk_put (cs := #[.slice none 0 0, .slice none 0 0, .slice none 0 0]) ?_ 0 _ rfl; (with_reducible repeat (first | refine blk_drewN ?_ _ | refine blk_drew ?_ | refine blk_alloc ?_ _)); exact BK305.out) : P := h
theorem Bd_33 {P : Prop} (h : P := by (with_reducible repeat (first | refine blk_drewN ?_ _ | refine blk_drew ?_ | refine blk_alloc ?_ _)); refine blk_put (cs := #[.slice Ao48 t312.length co48, .slice Ao52 t315.length co52, .slice none 0 0]) ?_ 2 _ rfl; (with_reducible repeat (first | refine blk_drewN ?_ _ | refine blk_drew ?_ | refine blk_alloc ?_ _)); refine blk_put (cs := #[.slice Ao48 t312.length co48, .slice none 0 0, .slice none 0 0]) ?_ 1 _ rfl; (with_reducible repeat (first | refine blk_drewN ?_ _ | refine blk_drew ?_ | refine blk_alloc ?_ _)); refine blk_put (cs := #[.slice none 0 0, .slice none 0 0, .slice none 0 0]) ?_ 0 _ rfl; (with_reducible repeat (first | refine blk_drewN ?_ _ | refine blk_drew ?_ | refine blk_alloc ?_ _)); exact BK322.out) : P := h
theorem Bd_34 {P : Prop} (h : P := by repeat (first | (with_reducible first | exact HB.out | apply below_alloc | apply pw_below_drewN | apply below_drew1 | refine below_set ?_ GE280.out) | exact HB.out)) : P := h
theorem Bd_35 {P : Prop} (h : P := by first | (with_reducible assumption) | assumption) : P := h
theorem Bd_36 {P : Prop} (h : P := by first | rfl | (simp; done) | (simp [*]; done)) : P := h
theorem Bd_37 {P : Prop} (h : P := by (with_reducible repeat (first | refine blk_drewN ?_ _ | refine blk_drew ?_ | refine blk_alloc ?_ _)); refine blk_far ?_ NB294_305.out _; (with_reducible repeat (first | refine blk_drewN ?_ _ | refine blk_drew ?_ | refine blk_alloc ?_ _)); refine blk_far ?_ NB294_305.out _; (with_reducible repeat (first | refine blk_drewN ?_ _ | refine blk_drew ?_ | refine blk_alloc ?_ _)); refine blk_far ?_ NB294_305.out _; (with_reducible repeat (first | refine blk_drewN ?_ _ | refine blk_drew ?_ | refine blk_alloc ?_ _)); exact BK294.out) : P := h
theorem Bd_38 {P : Prop} (h : P := by (with_reducible repeat (first | refine blk_drewN ?_ _ | refine blk_drew ?_ | refine blk_alloc ?_ _)); refine blk_far ?_ NB294_322.out _; (with_reducible repeat (first | refine blk_drewN ?_ _ | refine blk_drew ?_ | refine blk_alloc ?_ _)); refine blk_far ?_ NB294_322.out _; (with_reducible repeat (first | refine blk_drewN ?_ _ | refine blk_drew ?_ | refine blk_alloc ?_ _)); refine blk_far ?_ NB294_322.out _; (with_reducible repeat (first | refine blk_drewN ?_ _ | refine blk_drew ?_ | refine blk_alloc ?_ _)); exact BK294.out) : P := h
theorem Bd_39 {P : Prop} (h : P := by (with_reducible repeat (first | refine blk_drewN ?_ _ | refine blk_drew ?_ | refine blk_alloc ?_ _)); refine blk_far ?_ NB305_322.out _; (with_reducible repeat (first | refine blk_drewN ?_ _ | refine blk_drew ?_ | refine blk_alloc ?_ _)); refine blk_far ?_ NB305_322.out _; (with_reducible repeat (first | refine blk_drewN ?_ _ | refine blk_drew ?_ | refine blk_alloc ?_ _)); refine blk_far ?_ NB305_322.out _; (with_reducible repeat (first | refine blk_drewN ?_ _ | refine blk_drew ?_ | refine blk_alloc ?_ _)); exact BK305.out) : P := h
theorem Bd_40 {P : Prop} (h : P := by (with_reducible repeat (first | apply Kd.R_alloc | apply Kd.R_drewN | apply Kd.R_drew)); exact (Kd.R_mono (Kd.R_far (p := ⟨gb322, 2, none⟩) (Kd.R_far (p := ⟨gb322, 1, none⟩) (Kd.R_far (p := ⟨gb322, 0, none⟩) (Kd.R_types HO_306000.out BK322.out (by decide)) (fun _ hk => hk.2) (.slice Ao48 t312.length co48)) (fun _ hk => hk.2) (.slice Ao52 t315.length co52)) (fun _ hk => hk.2) (.slice Ao53 t318.length co53)) (fun _ h_ => h_.1))) : P := h
theorem Bd_41 {P : Prop} (h : P := by (with_reducible repeat (first | apply Kd.R_alloc | apply Kd.R_drewN | apply Kd.R_drew)); exact (Kd.R_mono (Kd.R_far (p := ⟨gb322, 2, none⟩) (Kd.R_far (p := ⟨gb322, 1, none⟩) (Kd.R_far (p := ⟨gb322, 0, none⟩) (Kd.R_types HO_306001.out BK322.out (by decide)) (fun _ hk => hk.2) (.slice Ao48 t312.length co48)) (fun _ hk => hk.2) (.slice Ao52 t315.length co52)) (fun _ hk => hk.2) (.slice Ao53 t318.length co53)) (fun _ h_ => h_.1))) : P := h
theorem Bd_42 {P : Prop} (h : P := by (with_reducible repeat (first | apply Kd.R_alloc | apply Kd.R_drewN | apply Kd.R_drew)); exact (Kd.R_mono (Kd.R_far (p := ⟨gb322, 2, none⟩) (Kd.R_far (p := ⟨gb322, 1, none⟩) (Kd.R_far (p := ⟨gb322, 0, none⟩) (Kd.R_types HO_306002.out BK322.out (by decide)) (fun _ hk => hk.2) (.slice Ao48 t312.length co48)) (fun _ hk => hk.2) (.slice Ao52 t315.length co52)) (fun _ hk => hk.2) (.slice Ao53 t318.length co53)) (fun _ h_ => h_.1))) : P := h
theorem Bd_43 {P : Prop} (h : P := by repeat (first | (with_reducible first | exact HK.out | apply Kept.alloc | apply Kept.drewN | apply Kept.drew | refine Kept.setCell ?_ (.inr GW272.out) _) | exact HK.out)) : P := h
theorem Bd_44 {P : Prop} (h : P := by (with_reducible repeat (first | refine blk_drewN ?_ _ | refine blk_drew ?_ | refine blk_alloc ?_ _)); exact BK272.out) : P := h
theorem Bd_45 {P : Prop} (h : P := by (with_reducible repeat (first | refine blk_drewN ?_ _ | refine blk_drew ?_ | refine blk_alloc ?_ _)); exact BK322.out) : P := h
theorem Bd_46 {P : Prop} (h : P := by (with_reducible repeat (first | apply Kd.R_alloc | apply Kd.R_drewN | apply Kd.R_drew)); exact HO_323000.out) : P := h
theorem Bd_47 {P : Prop} (h : P := by (with_reducible repeat (first | apply Kd.R_alloc | apply Kd.R_drewN | apply Kd.R_drew)); exact HO_323001.out) : P := h
theorem Bd_48 {P : Prop} (h : P := by (with_reducible repeat (first | apply Kd.R_alloc | apply Kd.R_drewN | apply Kd.R_drew)); exact HO_323002.out) : P := h
theorem Bd_49 {P : Prop} (h : P := by repeat (first | (with_reducible first | exact HK.out | apply Kept.alloc | apply Kept.drewN | apply Kept.drew) | exact HK.out)) : P := h
theorem Bd_50 {P : Prop} (h : P := by (with_reducible repeat (first | apply Kd.R_alloc | apply Kd.R_drewN | apply Kd.R_drew)); exact HO286.out) : P := h
theorem Bd_51 {P : Prop} (h : P := by (with_reducible repeat (first | apply Kd.R_alloc | apply Kd.R_drewN | apply Kd.R_drew)); exact HO289.out) : P := h
theorem Bd_52 {P : Prop} (h : P := by (with_reducible repeat (first | apply Kd.R_alloc | apply Kd.R_drewN | apply Kd.R_drew)); exact HO292.out) : P := h
def laws_eqIntS.l0 : Nat → List Int → List Int → Int → Option (Bool)
 | 0, _, _, _ => none
 | k + 1, x0, x1, x5 => if x5 < (x0.length : Int) then (if 0 ≤ x5 then (if x5 < (x1.length : Int) then (if (rd x0 x5) = (rd x1 x5) then (laws_eqIntS.l0 k x0 x1 (wrap64 (x5 + 1))) else (some false)) else (none)) else (none)) else (some true)
def laws_eqIntS.f (k : Nat) (l0 : List Int) (l1 : List Int) : Option (Bool) := if (l0.length : Int) = (l1.length : Int) then (laws_eqIntS.l0 k l0 l1 0) else (some false)
theorem laws_eqIntS.mono_l : ∀ k, (∀ y0 y1 y2, LeO (laws_eqIntS.l0 k y0 y1 y2) (laws_eqIntS.l0 (k + 1) y0 y1 y2))
 | 0 => fun _ _ _ r h => by simp [laws_eqIntS.l0] at h
 | k + 1 => by
  have ih0 := laws_eqIntS.mono_l k
  ·intro y0 y1 y2
   unfold laws_eqIntS.l0
   repeat' first
   | (with_reducible exact ih0 _ _ _)
   | (with_reducible exact LeO.refl _)
   | (with_reducible exact LeO.none _)
   | (with_reducible refine LeO.ite ?_ ?_)
   | (with_reducible refine LeO.bind ?_ (fun _ => ?_))
   | exact ih0 _ _ _
   | exact LeO.none _
   | refine LeO.ite ?_ ?_
   | refine LeO.bind ?_ (fun _ => ?_)
theorem laws_eqIntS.mono : ∀ a0 a1 k, LeO (laws_eqIntS.f k a0 a1) (laws_eqIntS.f (k + 1) a0 a1) := by
 intro a0 a1 k
 have ih0 := laws_eqIntS.mono_l k
 unfold laws_eqIntS.f
 repeat' first
   | (with_reducible exact ih0 _ _ _)
   | (with_reducible exact LeO.refl _)
   | (with_reducible exact LeO.none _)
   | (with_reducible refine LeO.ite ?_ ?_)
   | (with_reducible refine LeO.bind ?_ (fun _ => ?_))
   | exact ih0 _ _ _
   | exact LeO.none _
   | refine LeO.ite ?_ ?_
   | refine LeO.bind ?_ (fun _ => ?_)
set_option maxHeartbeats 8000000 in
set_option maxRecDepth 100000 in
theorem laws_eqIntS.calls (k : Nat) (A0 : Option Addr) (c0 : Nat) (l0 : List Int) (A1 : Option Addr) (c1 : Nat) (l1 : List Int) (r : Bool) (w : World) (hr0 : Kd.C (Kd.int .i64) w A0 l0.length l0) (hc0 : l0.length ≤ c0) (hr1 : Kd.C (Kd.int .i64) w A1 l1.length l1) (hc1 : l1.length ≤ c1) (h : laws_eqIntS.f k l0 l1 = some r) :
  Calls Try.prog 96 #[.slice A0 l0.length c0, .slice A1 l1.length c1] w fun e w' => e = .returned (.bool r) ∧ Drawn0 w w' := by
 have HR0 := Aside0.mk hr0
 have HC0 := Aside0.mk hc0
 clear hr0 hc0
 have HR1 := Aside0.mk hr1
 have HC1 := Aside0.mk hc1
 clear hr1 hc1
 have H : (if (l0.length : Int) = (l1.length : Int) then (laws_eqIntS.l0 k l0 l1 0) else (some false)) = some r := h
 clear h
 by_cases c3 : (l0.length : Int) = (l1.length : Int)
 ·rw [if_pos c3] at H
  have c3b0 : ((l0.length : Int) == (l1.length : Int)) = true := beq_iff_eq.mpr c3
  have c3b1 : ((l0.length : Int) != (l1.length : Int)) = false := bne_eq_false_iff_eq.mpr c3
  have c3b2 : (l0.length == l1.length) = true := by first | simpa using c3 | (simp at c3 ⊢; omega)
  clear c3
  have H' := Aside0.mk H
  clear H
  go_enter Try.func96, Try.ntmps96
  go_wp2
  repeat (go_quiet (fail); try go_wp2)
  go_loopg [5] k (fun kq v5 w' => ∃ (x5_1 : Int), v5 = .int .i64 x5_1 ∧ Aside0 (laws_eqIntS.l0 kq l0 l1 x5_1 = some r) ∧ Aside0 (kq ≤ k) ∧ Drawn0 w w')
  case atStart => exact ⟨(0), Bd_36, H', ⟨Nat.le_refl _⟩, by repeat (first | exact Drawn0.refl _ | apply Drawn0.step)⟩
  case round =>
   clear H'
   try clear c1; try clear p2; try clear c3; try clear c3b0; try clear c3b1; try clear c3b2
   obtain ⟨x5_1, rfl, HA, HK1, ⟨m1, rfl⟩⟩ := hrel
   cases gk with
   | zero => exact absurd HA.out (by simp [laws_eqIntS.l0])
   | succ k1 =>
    have H := HA.out
    clear HA
    simp only [laws_eqIntS.l0] at H
    by_cases c4 : x5_1 < (l0.length : Int)
    ·rw [if_pos c4] at H
     have c4b0 : decide (x5_1 < (l0.length : Int)) = true := decide_eq_true c4
     clear c4
     by_cases c5 : 0 ≤ x5_1
     ·rw [if_pos c5] at H
      have c5b0 : decide (0 ≤ x5_1) = true := decide_eq_true c5
      clear c5
      by_cases c6 : x5_1 < (l1.length : Int)
      ·rw [if_pos c6] at H
       have c6b0 : decide (x5_1 < (l1.length : Int)) = true := decide_eq_true c6
       clear c6
       by_cases c7 : (rd l0 x5_1) = (rd l1 x5_1)
       ·rw [if_pos c7] at H
        have c7b0 : ((rd l0 x5_1) == (rd l1 x5_1)) = true := beq_iff_eq.mpr c7
        have c7b1 : ((rd l0 x5_1) != (rd l1 x5_1)) = false := bne_eq_false_iff_eq.mpr c7
        clear c7
        have H' := Aside0.mk H
        clear H
        have p264 : 0 ≤ (x5_1 : Int) := of_decide_eq_true Bd_35
        have q264 : x5_1 < (l0.length : Int) := of_decide_eq_true Bd_35
        obtain ⟨ad264, e264, hx264_0⟩ := Kd.at_int HR0.out x5_1 p264 q264
        cases e264
        replace p264 := eq_true p264
        replace q264 := eq_true q264
        have p265 : 0 ≤ (x5_1 : Int) := of_decide_eq_true Bd_35
        have q265 : x5_1 < (l1.length : Int) := of_decide_eq_true Bd_35
        obtain ⟨ad265, e265, hx265_0⟩ := Kd.at_int HR1.out x5_1 p265 q265
        cases e265
        replace p265 := eq_true p265
        replace q265 := eq_true q265
        go_wp2
        repeat (go_quiet (fail); try go_wp2)
        go_roundg k1
        case measure => have := HK1.out; omega
        case rel => exact ⟨(wrap64 (x5_1 + 1)), Bd_36, H', ⟨by have := HK1.out; omega⟩, by repeat (first | exact Drawn0.refl _ | apply Drawn0.step)⟩
       ·rw [if_neg c7] at H
        have c7b0 : ((rd l0 x5_1) == (rd l1 x5_1)) = false := beq_eq_false_iff_ne.mpr c7
        have c7b1 : ((rd l0 x5_1) != (rd l1 x5_1)) = true := bne_iff_ne.mpr c7
        obtain rfl := Option.some.inj H
        have p264 : 0 ≤ (x5_1 : Int) := of_decide_eq_true Bd_35
        have q264 : x5_1 < (l0.length : Int) := of_decide_eq_true Bd_35
        obtain ⟨ad264, e264, hx264_0⟩ := Kd.at_int HR0.out x5_1 p264 q264
        cases e264
        replace p264 := eq_true p264
        replace q264 := eq_true q264
        have p265 : 0 ≤ (x5_1 : Int) := of_decide_eq_true Bd_35
        have q265 : x5_1 < (l1.length : Int) := of_decide_eq_true Bd_35
        obtain ⟨ad265, e265, hx265_0⟩ := Kd.at_int HR1.out x5_1 p265 q265
        cases e265
        replace p265 := eq_true p265
        replace q265 := eq_true q265
        go_wp2
        repeat (go_quiet (fail); try go_wp2)
        go_ret
        exact ⟨by first | rfl | (simp; done) | (simp [*]; done), by repeat (first | exact Drawn0.refl _ | apply Drawn0.step)⟩
      ·rw [if_neg c6] at H
       exact absurd H (by simp)
     ·rw [if_neg c5] at H
      exact absurd H (by simp)
    ·rw [if_neg c4] at H
     have c4b0 : decide (x5_1 < (l0.length : Int)) = false := decide_eq_false c4
     clear c4
     obtain rfl := Option.some.inj H
     go_wp2
     repeat (go_quiet (fail); try go_wp2)
     go_ret
     exact ⟨by first | rfl | (simp; done) | (simp [*]; done), by repeat (first | exact Drawn0.refl _ | apply Drawn0.step)⟩
 ·rw [if_neg c3] at H
  have c3b0 : ((l0.length : Int) == (l1.length : Int)) = false := beq_eq_false_iff_ne.mpr c3
  have c3b1 : ((l0.length : Int) != (l1.length : Int)) = true := bne_iff_ne.mpr c3
  have c3b2 : (l0.length == l1.length) = false := by first | simpa using c3 | (simp at c3 ⊢; omega)
  obtain rfl := Option.some.inj H
  go_enter Try.func96, Try.ntmps96
  go_wp2
  repeat (go_quiet (fail); try go_wp2)
  go_ret
  exact ⟨by first | rfl | (simp; done) | (simp [*]; done), by repeat (first | exact Drawn0.refl _ | apply Drawn0.step)⟩
end Go.Proofs.Ytjmhhgnknjfnlaa.PFnExactReadLayout
namespace Go.Proofs.Ytjmhhgnknjfnlaa.PFnExactReadLayout
open Go.RowKit Go.Proofs.YtjmhhgnknjfnlaaW.PrintWords Go.Proofs.YtjmhhgnknjfnlaaW.PrintLast Go.Proofs.YtjmhhgnknjfnlaaW.PrintMore
attribute [local go_sem] max2_int min2_int max_two min_two max_three min_three max_four min_four
set_option linter.unusedVariables false
set_option linter.unusedSimpArgs false
def laws_eqLayout.f (k : Nat) (l0_0 : List Int) (l0_1 : List Int) (l0_2 : List Int) (l1_0 : List Int) (l1_1 : List Int) (l1_2 : List Int) : Option (Bool) := (laws_eqIntS.f k l0_0 l1_0).bind fun t268 => (if t268 = true then ((laws_eqIntS.f k l0_1 l1_1).bind fun t269 => (if t269 = true then ((laws_eqIntS.f k l0_2 l1_2).bind fun t270 => (if t270 = true then (some true) else (some false))) else (some false))) else (some false))
theorem laws_eqLayout.mono : ∀ a0 a1 a2 a3 a4 a5 k, LeO (laws_eqLayout.f k a0 a1 a2 a3 a4 a5) (laws_eqLayout.f (k + 1) a0 a1 a2 a3 a4 a5) := by
 intro a0 a1 a2 a3 a4 a5 k
 unfold laws_eqLayout.f
 repeat' first
   | (with_reducible exact laws_eqIntS.mono _ _ _)
   | (with_reducible exact LeO.refl _)
   | (with_reducible exact LeO.none _)
   | (with_reducible refine LeO.ite ?_ ?_)
   | (with_reducible refine LeO.bind ?_ (fun _ => ?_))
   | exact laws_eqIntS.mono _ _ _
   | exact LeO.none _
   | refine LeO.ite ?_ ?_
   | refine LeO.bind ?_ (fun _ => ?_)
set_option maxHeartbeats 8000000 in
set_option maxRecDepth 100000 in
theorem laws_eqLayout.calls (k : Nat) (A0_0 : Option Addr) (c0_0 : Nat) (l0_0 : List Int) (A0_1 : Option Addr) (c0_1 : Nat) (l0_1 : List Int) (A0_2 : Option Addr) (c0_2 : Nat) (l0_2 : List Int) (A1_0 : Option Addr) (c1_0 : Nat) (l1_0 : List Int) (A1_1 : Option Addr) (c1_1 : Nat) (l1_1 : List Int) (A1_2 : Option Addr) (c1_2 : Nat) (l1_2 : List Int) (r : Bool) (w : World) (hr0_0 : Kd.C (Kd.int .i64) w A0_0 l0_0.length l0_0) (hc0_0 : l0_0.length ≤ c0_0) (hr0_1 : Kd.C (Kd.int .i64) w A0_1 l0_1.length l0_1) (hc0_1 : l0_1.length ≤ c0_1) (hr0_2 : Kd.C (Kd.int .i64) w A0_2 l0_2.length l0_2) (hc0_2 : l0_2.length ≤ c0_2) (hr1_0 : Kd.C (Kd.int .i64) w A1_0 l1_0.length l1_0) (hc1_0 : l1_0.length ≤ c1_0) (hr1_1 : Kd.C (Kd.int .i64) w A1_1 l1_1.length l1_1) (hc1_1 : l1_1.length ≤ c1_1) (hr1_2 : Kd.C (Kd.int .i64) w A1_2 l1_2.length l1_2) (hc1_2 : l1_2.length ≤ c1_2) (h : laws_eqLayout.f k l0_0 l0_1 l0_2 l1_0 l1_1 l1_2 = some r) :
  Calls Try.prog 44 #[.agg #[.slice A0_0 l0_0.length c0_0, .slice A0_1 l0_1.length c0_1, .slice A0_2 l0_2.length c0_2], .agg #[.slice A1_0 l1_0.length c1_0, .slice A1_1 l1_1.length c1_1, .slice A1_2 l1_2.length c1_2]] w fun e w' => e = .returned (.bool r) ∧ Below w.heap.size w w' := by
 have hu39 := Try.underlying39
 have HR0_0 := Aside0.mk hr0_0
 have HC0_0 := Aside0.mk hc0_0
 clear hr0_0 hc0_0
 have HR0_1 := Aside0.mk hr0_1
 have HC0_1 := Aside0.mk hc0_1
 clear hr0_1 hc0_1
 have HR0_2 := Aside0.mk hr0_2
 have HC0_2 := Aside0.mk hc0_2
 clear hr0_2 hc0_2
 have HR1_0 := Aside0.mk hr1_0
 have HC1_0 := Aside0.mk hc1_0
 clear hr1_0 hc1_0
 have HR1_1 := Aside0.mk hr1_1
 have HC1_1 := Aside0.mk hc1_1
 clear hr1_1 hc1_1
 have HR1_2 := Aside0.mk hr1_2
 have HC1_2 := Aside0.mk hc1_2
 clear hr1_2 hc1_2
 have HB := Aside0.mk (Below.refl w.heap.size w)
 have H : ((laws_eqIntS.f k l0_0 l1_0).bind fun t268 => (if t268 = true then ((laws_eqIntS.f k l0_1 l1_1).bind fun t269 => (if t269 = true then ((laws_eqIntS.f k l0_2 l1_2).bind fun t270 => (if t270 = true then (some true) else (some false))) else (some false))) else (some false))) = some r := h
 clear h
 replace H := Option.bind_eq_some_iff.mp H
 obtain ⟨t268, A30, H⟩ := H
 replace H : (if t268 = true then ((laws_eqIntS.f k l0_1 l1_1).bind fun t269 => (if t269 = true then ((laws_eqIntS.f k l0_2 l1_2).bind fun t270 => (if t270 = true then (some true) else (some false))) else (some false))) else (some false)) = some r := H
 have A3 := Aside0.mk A30
 clear A30
 by_cases c4 : t268 = true
 ·subst c4
  have H1 : ((laws_eqIntS.f k l0_1 l1_1).bind fun t269 => (if t269 = true then ((laws_eqIntS.f k l0_2 l1_2).bind fun t270 => (if t270 = true then (some true) else (some false))) else (some false))) = some r := by rw [if_pos rfl] at H; exact H
  clear H
  have H := H1
  clear H1
  replace H := Option.bind_eq_some_iff.mp H
  obtain ⟨t269, A50, H⟩ := H
  replace H : (if t269 = true then ((laws_eqIntS.f k l0_2 l1_2).bind fun t270 => (if t270 = true then (some true) else (some false))) else (some false)) = some r := H
  have A5 := Aside0.mk A50
  clear A50
  by_cases c6 : t269 = true
  ·subst c6
   have H1 : ((laws_eqIntS.f k l0_2 l1_2).bind fun t270 => (if t270 = true then (some true) else (some false))) = some r := by rw [if_pos rfl] at H; exact H
   clear H
   have H := H1
   clear H1
   replace H := Option.bind_eq_some_iff.mp H
   obtain ⟨t270, A70, H⟩ := H
   replace H : (if t270 = true then (some true) else (some false)) = some r := H
   have A7 := Aside0.mk A70
   clear A70
   by_cases c8 : t270 = true
   ·subst c8
    have H1 : (some true) = some r := by rw [if_pos rfl] at H; exact H
    clear H
    have H := H1
    clear H1
    obtain rfl := Option.some.inj H
    go_enter Try.func44, Try.ntmps44
    go_wp2_with (first | ((with_reducible refine gate_dst (N := 2) rfl ?_); refine box_event ?hg (N := 2) ?hd (cs := #[.slice A0_0 l0_0.length c0_0, .slice A0_1 l0_1.length c0_1, .slice A0_2 l0_2.length c0_2]) (t := 39) ?hr ?_; (case hd => rfl); (case hg => rfl); (case hr => first | (go_simp; done) | (go_simp; rfl)); intro gb266 hg w9 hbox hb; have n0_ := Aside0.mk (below_step Bd_1 hb); have n1_ := Aside0.mk (hbox); have n2_ := Aside0.mk ((by rw [hg]; exact (below_size Bd_1) : w.heap.size ≤ gb266)); have n3_ := Aside0.mk ((by rw [hg]; exact (below_size Bd_1) : w.heap.size ≤ gb266)); clear HB; have HB := n0_; have BK266 := n1_; have GW266 := n2_; have GE266 := n3_; clear n0_ n1_ n2_ n3_; clear hb hbox hg) | ((with_reducible refine gate_dst (N := 3) rfl ?_); refine box_event ?hg (N := 3) ?hd (cs := #[.slice A1_0 l1_0.length c1_0, .slice A1_1 l1_1.length c1_1, .slice A1_2 l1_2.length c1_2]) (t := 39) ?hr ?_; (case hd => rfl); (case hg => rfl); (case hr => first | (go_simp; done) | (go_simp; rfl)); intro gb267 hg w10 hbox hb; have n0_ := Aside0.mk (blk_below (g := gb266) (o := .cells #[.slice A0_0 l0_0.length c0_0, .slice A0_1 l0_1.length c0_1, .slice A0_2 l0_2.length c0_2] 39 (0, 0)) Bd_7 hb); have n1_ := Aside0.mk (below_step Bd_3 hb); have n2_ := Aside0.mk (hbox); have n3_ := Aside0.mk ((by rw [hg]; exact (below_size Bd_3) : w.heap.size ≤ gb267)); have n4_ := Aside0.mk ((by rw [hg]; exact (below_size Bd_3) : w.heap.size ≤ gb267)); have n5_ := Aside0.mk ((by rw [hg]; exact Nat.ne_of_lt (blk_lt (g := gb266) (o := .cells #[.slice A0_0 l0_0.length c0_0, .slice A0_1 l0_1.length c0_1, .slice A0_2 l0_2.length c0_2] 39 (0, 0)) Bd_7) : gb266 ≠ gb267)); have n6_ := Aside0.mk ((by rw [hg]; exact Nat.ne_of_gt (blk_lt (g := gb266) (o := .cells #[.slice A0_0 l0_0.length c0_0, .slice A0_1 l0_1.length c0_1, .slice A0_2 l0_2.length c0_2] 39 (0, 0)) Bd_7) : gb267 ≠ gb266)); clear BK266; clear HB; have BK266 := n0_; have HB := n1_; have BK267 := n2_; have GW267 := n3_; have GE267 := n4_; have NB266_267 := n5_; have NB267_266 := n6_; clear n0_ n1_ n2_ n3_ n4_ n5_ n6_; clear hb hbox hg; have hnb11 := NB266_267.out; have hnc11 := NB267_266.out; have hcz12_0 : w10.cell? ⟨gb266, 0, none⟩ = some (.slice A0_0 l0_0.length c0_0) := (blk_cell BK266.out 0).trans rfl; have hcz12_1 : w10.cell? ⟨gb266, 1, none⟩ = some (.slice A0_1 l0_1.length c0_1) := (blk_cell BK266.out 1).trans rfl; have hcz12_2 : w10.cell? ⟨gb266, 2, none⟩ = some (.slice A0_2 l0_2.length c0_2) := (blk_cell BK266.out 2).trans rfl; have hfz12_0 := blk_frozen BK266.out 0; have hfz12_1 := blk_frozen BK266.out 1; have hfz12_2 := blk_frozen BK266.out 2; have hcz13_0 : w10.cell? ⟨gb267, 0, none⟩ = some (.slice A1_0 l1_0.length c1_0) := (blk_cell BK267.out 0).trans rfl; have hcz13_1 : w10.cell? ⟨gb267, 1, none⟩ = some (.slice A1_1 l1_1.length c1_1) := (blk_cell BK267.out 1).trans rfl; have hcz13_2 : w10.cell? ⟨gb267, 2, none⟩ = some (.slice A1_2 l1_2.length c1_2) := (blk_cell BK267.out 2).trans rfl; have hfz13_0 := blk_frozen BK267.out 0; have hfz13_1 := blk_frozen BK267.out 1; have hfz13_2 := blk_frozen BK267.out 2) | ((with_reducible refine gate_callee (f := 96) rfl ?_); refine goesL_ (some 9) rfl rfl Try.func96 (by kernel_rfl) rfl #[.slice A0_0 l0_0.length c0_0, .slice A1_0 l1_0.length c1_0] rfl Bd_0 ?_; (with_reducible refine (laws_eqIntS.calls k _ _ l0_0 _ _ l1_0 true _ ?side1 ?side2 ?side3 ?side4 A3.out).mono ?_); (case side1 => repeat (first | exact (Kd.C_below HR0_0.out HB.out) | (with_reducible refine Kd.C_alloc ?_ _) | (with_reducible refine Kd.C_drewN ?_ _) | (with_reducible refine Kd.C_drew ?_))); (case side2 => exact HC0_0.out); (case side3 => repeat (first | exact (Kd.C_below HR1_0.out HB.out) | (with_reducible refine Kd.C_alloc ?_ _) | (with_reducible refine Kd.C_drewN ?_ _) | (with_reducible refine Kd.C_drew ?_))); (case side4 => exact HC1_0.out); rintro e w' ⟨rfl, ⟨nd, rfl⟩⟩; refine ⟨_, rfl, ?_⟩) | ((with_reducible refine gate_callee (f := 96) rfl ?_); refine goesL_ (some 15) rfl rfl Try.func96 (by kernel_rfl) rfl #[.slice A0_1 l0_1.length c0_1, .slice A1_1 l1_1.length c1_1] rfl Bd_0 ?_; (with_reducible refine (laws_eqIntS.calls k _ _ l0_1 _ _ l1_1 true _ ?side1 ?side2 ?side3 ?side4 A5.out).mono ?_); (case side1 => repeat (first | exact (Kd.C_below HR0_1.out Bd_4) | (with_reducible refine Kd.C_alloc ?_ _) | (with_reducible refine Kd.C_drewN ?_ _) | (with_reducible refine Kd.C_drew ?_))); (case side2 => exact HC0_1.out); (case side3 => repeat (first | exact (Kd.C_below HR1_1.out Bd_4) | (with_reducible refine Kd.C_alloc ?_ _) | (with_reducible refine Kd.C_drewN ?_ _) | (with_reducible refine Kd.C_drew ?_))); (case side4 => exact HC1_1.out); rintro e w' ⟨rfl, ⟨nd, rfl⟩⟩; refine ⟨_, rfl, ?_⟩) | ((with_reducible refine gate_callee (f := 96) rfl ?_); refine goesL_ (some 21) rfl rfl Try.func96 (by kernel_rfl) rfl #[.slice A0_2 l0_2.length c0_2, .slice A1_2 l1_2.length c1_2] rfl Bd_0 ?_; (with_reducible refine (laws_eqIntS.calls k _ _ l0_2 _ _ l1_2 true _ ?side1 ?side2 ?side3 ?side4 A7.out).mono ?_); (case side1 => repeat (first | exact (Kd.C_below HR0_2.out Bd_4) | (with_reducible refine Kd.C_alloc ?_ _) | (with_reducible refine Kd.C_drewN ?_ _) | (with_reducible refine Kd.C_drew ?_))); (case side2 => exact HC0_2.out); (case side3 => repeat (first | exact (Kd.C_below HR1_2.out Bd_4) | (with_reducible refine Kd.C_alloc ?_ _) | (with_reducible refine Kd.C_drewN ?_ _) | (with_reducible refine Kd.C_drew ?_))); (case side4 => exact HC1_2.out); rintro e w' ⟨rfl, ⟨nd, rfl⟩⟩; refine ⟨_, rfl, ?_⟩))
    go_ret
    exact ⟨by first | rfl | (simp [errW_none, errW_some] <;> rfl) | (simp [*, errW_none, errW_some] <;> rfl), by repeat (first | (with_reducible first | exact HB.out | apply below_alloc | apply pw_below_drewN | apply below_drew1 | refine below_set ?_ GE266.out | refine below_set ?_ GE267.out) | exact HB.out)⟩
   ·replace c8 := Bool.eq_false_iff.mpr c8
    subst c8
    have H1 : (some false) = some r := by rw [if_neg (show ¬ (false = true) by decide)] at H; exact H
    clear H
    have H := H1
    clear H1
    obtain rfl := Option.some.inj H
    go_enter Try.func44, Try.ntmps44
    go_wp2_with (first | ((with_reducible refine gate_dst (N := 2) rfl ?_); refine box_event ?hg (N := 2) ?hd (cs := #[.slice A0_0 l0_0.length c0_0, .slice A0_1 l0_1.length c0_1, .slice A0_2 l0_2.length c0_2]) (t := 39) ?hr ?_; (case hd => rfl); (case hg => rfl); (case hr => first | (go_simp; done) | (go_simp; rfl)); intro gb266 hg w14 hbox hb; have n0_ := Aside0.mk (below_step Bd_1 hb); have n1_ := Aside0.mk (hbox); have n2_ := Aside0.mk ((by rw [hg]; exact (below_size Bd_1) : w.heap.size ≤ gb266)); have n3_ := Aside0.mk ((by rw [hg]; exact (below_size Bd_1) : w.heap.size ≤ gb266)); clear HB; have HB := n0_; have BK266 := n1_; have GW266 := n2_; have GE266 := n3_; clear n0_ n1_ n2_ n3_; clear hb hbox hg) | ((with_reducible refine gate_dst (N := 3) rfl ?_); refine box_event ?hg (N := 3) ?hd (cs := #[.slice A1_0 l1_0.length c1_0, .slice A1_1 l1_1.length c1_1, .slice A1_2 l1_2.length c1_2]) (t := 39) ?hr ?_; (case hd => rfl); (case hg => rfl); (case hr => first | (go_simp; done) | (go_simp; rfl)); intro gb267 hg w15 hbox hb; have n0_ := Aside0.mk (blk_below (g := gb266) (o := .cells #[.slice A0_0 l0_0.length c0_0, .slice A0_1 l0_1.length c0_1, .slice A0_2 l0_2.length c0_2] 39 (0, 0)) Bd_7 hb); have n1_ := Aside0.mk (below_step Bd_3 hb); have n2_ := Aside0.mk (hbox); have n3_ := Aside0.mk ((by rw [hg]; exact (below_size Bd_3) : w.heap.size ≤ gb267)); have n4_ := Aside0.mk ((by rw [hg]; exact (below_size Bd_3) : w.heap.size ≤ gb267)); have n5_ := Aside0.mk ((by rw [hg]; exact Nat.ne_of_lt (blk_lt (g := gb266) (o := .cells #[.slice A0_0 l0_0.length c0_0, .slice A0_1 l0_1.length c0_1, .slice A0_2 l0_2.length c0_2] 39 (0, 0)) Bd_7) : gb266 ≠ gb267)); have n6_ := Aside0.mk ((by rw [hg]; exact Nat.ne_of_gt (blk_lt (g := gb266) (o := .cells #[.slice A0_0 l0_0.length c0_0, .slice A0_1 l0_1.length c0_1, .slice A0_2 l0_2.length c0_2] 39 (0, 0)) Bd_7) : gb267 ≠ gb266)); clear BK266; clear HB; have BK266 := n0_; have HB := n1_; have BK267 := n2_; have GW267 := n3_; have GE267 := n4_; have NB266_267 := n5_; have NB267_266 := n6_; clear n0_ n1_ n2_ n3_ n4_ n5_ n6_; clear hb hbox hg; have hnb16 := NB266_267.out; have hnc16 := NB267_266.out; have hcz17_0 : w15.cell? ⟨gb266, 0, none⟩ = some (.slice A0_0 l0_0.length c0_0) := (blk_cell BK266.out 0).trans rfl; have hcz17_1 : w15.cell? ⟨gb266, 1, none⟩ = some (.slice A0_1 l0_1.length c0_1) := (blk_cell BK266.out 1).trans rfl; have hcz17_2 : w15.cell? ⟨gb266, 2, none⟩ = some (.slice A0_2 l0_2.length c0_2) := (blk_cell BK266.out 2).trans rfl; have hfz17_0 := blk_frozen BK266.out 0; have hfz17_1 := blk_frozen BK266.out 1; have hfz17_2 := blk_frozen BK266.out 2; have hcz18_0 : w15.cell? ⟨gb267, 0, none⟩ = some (.slice A1_0 l1_0.length c1_0) := (blk_cell BK267.out 0).trans rfl; have hcz18_1 : w15.cell? ⟨gb267, 1, none⟩ = some (.slice A1_1 l1_1.length c1_1) := (blk_cell BK267.out 1).trans rfl; have hcz18_2 : w15.cell? ⟨gb267, 2, none⟩ = some (.slice A1_2 l1_2.length c1_2) := (blk_cell BK267.out 2).trans rfl; have hfz18_0 := blk_frozen BK267.out 0; have hfz18_1 := blk_frozen BK267.out 1; have hfz18_2 := blk_frozen BK267.out 2) | ((with_reducible refine gate_callee (f := 96) rfl ?_); refine goesL_ (some 9) rfl rfl Try.func96 (by kernel_rfl) rfl #[.slice A0_0 l0_0.length c0_0, .slice A1_0 l1_0.length c1_0] rfl Bd_0 ?_; (with_reducible refine (laws_eqIntS.calls k _ _ l0_0 _ _ l1_0 true _ ?side1 ?side2 ?side3 ?side4 A3.out).mono ?_); (case side1 => repeat (first | exact (Kd.C_below HR0_0.out HB.out) | (with_reducible refine Kd.C_alloc ?_ _) | (with_reducible refine Kd.C_drewN ?_ _) | (with_reducible refine Kd.C_drew ?_))); (case side2 => exact HC0_0.out); (case side3 => repeat (first | exact (Kd.C_below HR1_0.out HB.out) | (with_reducible refine Kd.C_alloc ?_ _) | (with_reducible refine Kd.C_drewN ?_ _) | (with_reducible refine Kd.C_drew ?_))); (case side4 => exact HC1_0.out); rintro e w' ⟨rfl, ⟨nd, rfl⟩⟩; refine ⟨_, rfl, ?_⟩) | ((with_reducible refine gate_callee (f := 96) rfl ?_); refine goesL_ (some 15) rfl rfl Try.func96 (by kernel_rfl) rfl #[.slice A0_1 l0_1.length c0_1, .slice A1_1 l1_1.length c1_1] rfl Bd_0 ?_; (with_reducible refine (laws_eqIntS.calls k _ _ l0_1 _ _ l1_1 true _ ?side1 ?side2 ?side3 ?side4 A5.out).mono ?_); (case side1 => repeat (first | exact (Kd.C_below HR0_1.out Bd_4) | (with_reducible refine Kd.C_alloc ?_ _) | (with_reducible refine Kd.C_drewN ?_ _) | (with_reducible refine Kd.C_drew ?_))); (case side2 => exact HC0_1.out); (case side3 => repeat (first | exact (Kd.C_below HR1_1.out Bd_4) | (with_reducible refine Kd.C_alloc ?_ _) | (with_reducible refine Kd.C_drewN ?_ _) | (with_reducible refine Kd.C_drew ?_))); (case side4 => exact HC1_1.out); rintro e w' ⟨rfl, ⟨nd, rfl⟩⟩; refine ⟨_, rfl, ?_⟩) | ((with_reducible refine gate_callee (f := 96) rfl ?_); refine goesL_ (some 21) rfl rfl Try.func96 (by kernel_rfl) rfl #[.slice A0_2 l0_2.length c0_2, .slice A1_2 l1_2.length c1_2] rfl Bd_0 ?_; (with_reducible refine (laws_eqIntS.calls k _ _ l0_2 _ _ l1_2 false _ ?side1 ?side2 ?side3 ?side4 A7.out).mono ?_); (case side1 => repeat (first | exact (Kd.C_below HR0_2.out Bd_4) | (with_reducible refine Kd.C_alloc ?_ _) | (with_reducible refine Kd.C_drewN ?_ _) | (with_reducible refine Kd.C_drew ?_))); (case side2 => exact HC0_2.out); (case side3 => repeat (first | exact (Kd.C_below HR1_2.out Bd_4) | (with_reducible refine Kd.C_alloc ?_ _) | (with_reducible refine Kd.C_drewN ?_ _) | (with_reducible refine Kd.C_drew ?_))); (case side4 => exact HC1_2.out); rintro e w' ⟨rfl, ⟨nd, rfl⟩⟩; refine ⟨_, rfl, ?_⟩))
    go_ret
    exact ⟨by first | rfl | (simp [errW_none, errW_some] <;> rfl) | (simp [*, errW_none, errW_some] <;> rfl), by repeat (first | (with_reducible first | exact HB.out | apply below_alloc | apply pw_below_drewN | apply below_drew1 | refine below_set ?_ GE266.out | refine below_set ?_ GE267.out) | exact HB.out)⟩
  ·replace c6 := Bool.eq_false_iff.mpr c6
   subst c6
   have H1 : (some false) = some r := by rw [if_neg (show ¬ (false = true) by decide)] at H; exact H
   clear H
   have H := H1
   clear H1
   obtain rfl := Option.some.inj H
   go_enter Try.func44, Try.ntmps44
   go_wp2_with (first | ((with_reducible refine gate_dst (N := 2) rfl ?_); refine box_event ?hg (N := 2) ?hd (cs := #[.slice A0_0 l0_0.length c0_0, .slice A0_1 l0_1.length c0_1, .slice A0_2 l0_2.length c0_2]) (t := 39) ?hr ?_; (case hd => rfl); (case hg => rfl); (case hr => first | (go_simp; done) | (go_simp; rfl)); intro gb266 hg w19 hbox hb; have n0_ := Aside0.mk (below_step Bd_1 hb); have n1_ := Aside0.mk (hbox); have n2_ := Aside0.mk ((by rw [hg]; exact (below_size Bd_1) : w.heap.size ≤ gb266)); have n3_ := Aside0.mk ((by rw [hg]; exact (below_size Bd_1) : w.heap.size ≤ gb266)); clear HB; have HB := n0_; have BK266 := n1_; have GW266 := n2_; have GE266 := n3_; clear n0_ n1_ n2_ n3_; clear hb hbox hg) | ((with_reducible refine gate_dst (N := 3) rfl ?_); refine box_event ?hg (N := 3) ?hd (cs := #[.slice A1_0 l1_0.length c1_0, .slice A1_1 l1_1.length c1_1, .slice A1_2 l1_2.length c1_2]) (t := 39) ?hr ?_; (case hd => rfl); (case hg => rfl); (case hr => first | (go_simp; done) | (go_simp; rfl)); intro gb267 hg w20 hbox hb; have n0_ := Aside0.mk (blk_below (g := gb266) (o := .cells #[.slice A0_0 l0_0.length c0_0, .slice A0_1 l0_1.length c0_1, .slice A0_2 l0_2.length c0_2] 39 (0, 0)) Bd_7 hb); have n1_ := Aside0.mk (below_step Bd_3 hb); have n2_ := Aside0.mk (hbox); have n3_ := Aside0.mk ((by rw [hg]; exact (below_size Bd_3) : w.heap.size ≤ gb267)); have n4_ := Aside0.mk ((by rw [hg]; exact (below_size Bd_3) : w.heap.size ≤ gb267)); have n5_ := Aside0.mk ((by rw [hg]; exact Nat.ne_of_lt (blk_lt (g := gb266) (o := .cells #[.slice A0_0 l0_0.length c0_0, .slice A0_1 l0_1.length c0_1, .slice A0_2 l0_2.length c0_2] 39 (0, 0)) Bd_7) : gb266 ≠ gb267)); have n6_ := Aside0.mk ((by rw [hg]; exact Nat.ne_of_gt (blk_lt (g := gb266) (o := .cells #[.slice A0_0 l0_0.length c0_0, .slice A0_1 l0_1.length c0_1, .slice A0_2 l0_2.length c0_2] 39 (0, 0)) Bd_7) : gb267 ≠ gb266)); clear BK266; clear HB; have BK266 := n0_; have HB := n1_; have BK267 := n2_; have GW267 := n3_; have GE267 := n4_; have NB266_267 := n5_; have NB267_266 := n6_; clear n0_ n1_ n2_ n3_ n4_ n5_ n6_; clear hb hbox hg; have hnb21 := NB266_267.out; have hnc21 := NB267_266.out; have hcz22_0 : w20.cell? ⟨gb266, 0, none⟩ = some (.slice A0_0 l0_0.length c0_0) := (blk_cell BK266.out 0).trans rfl; have hcz22_1 : w20.cell? ⟨gb266, 1, none⟩ = some (.slice A0_1 l0_1.length c0_1) := (blk_cell BK266.out 1).trans rfl; have hcz22_2 : w20.cell? ⟨gb266, 2, none⟩ = some (.slice A0_2 l0_2.length c0_2) := (blk_cell BK266.out 2).trans rfl; have hfz22_0 := blk_frozen BK266.out 0; have hfz22_1 := blk_frozen BK266.out 1; have hfz22_2 := blk_frozen BK266.out 2; have hcz23_0 : w20.cell? ⟨gb267, 0, none⟩ = some (.slice A1_0 l1_0.length c1_0) := (blk_cell BK267.out 0).trans rfl; have hcz23_1 : w20.cell? ⟨gb267, 1, none⟩ = some (.slice A1_1 l1_1.length c1_1) := (blk_cell BK267.out 1).trans rfl; have hcz23_2 : w20.cell? ⟨gb267, 2, none⟩ = some (.slice A1_2 l1_2.length c1_2) := (blk_cell BK267.out 2).trans rfl; have hfz23_0 := blk_frozen BK267.out 0; have hfz23_1 := blk_frozen BK267.out 1; have hfz23_2 := blk_frozen BK267.out 2) | ((with_reducible refine gate_callee (f := 96) rfl ?_); refine goesL_ (some 9) rfl rfl Try.func96 (by kernel_rfl) rfl #[.slice A0_0 l0_0.length c0_0, .slice A1_0 l1_0.length c1_0] rfl Bd_0 ?_; (with_reducible refine (laws_eqIntS.calls k _ _ l0_0 _ _ l1_0 true _ ?side1 ?side2 ?side3 ?side4 A3.out).mono ?_); (case side1 => repeat (first | exact (Kd.C_below HR0_0.out HB.out) | (with_reducible refine Kd.C_alloc ?_ _) | (with_reducible refine Kd.C_drewN ?_ _) | (with_reducible refine Kd.C_drew ?_))); (case side2 => exact HC0_0.out); (case side3 => repeat (first | exact (Kd.C_below HR1_0.out HB.out) | (with_reducible refine Kd.C_alloc ?_ _) | (with_reducible refine Kd.C_drewN ?_ _) | (with_reducible refine Kd.C_drew ?_))); (case side4 => exact HC1_0.out); rintro e w' ⟨rfl, ⟨nd, rfl⟩⟩; refine ⟨_, rfl, ?_⟩) | ((with_reducible refine gate_callee (f := 96) rfl ?_); refine goesL_ (some 15) rfl rfl Try.func96 (by kernel_rfl) rfl #[.slice A0_1 l0_1.length c0_1, .slice A1_1 l1_1.length c1_1] rfl Bd_0 ?_; (with_reducible refine (laws_eqIntS.calls k _ _ l0_1 _ _ l1_1 false _ ?side1 ?side2 ?side3 ?side4 A5.out).mono ?_); (case side1 => repeat (first | exact (Kd.C_below HR0_1.out Bd_4) | (with_reducible refine Kd.C_alloc ?_ _) | (with_reducible refine Kd.C_drewN ?_ _) | (with_reducible refine Kd.C_drew ?_))); (case side2 => exact HC0_1.out); (case side3 => repeat (first | exact (Kd.C_below HR1_1.out Bd_4) | (with_reducible refine Kd.C_alloc ?_ _) | (with_reducible refine Kd.C_drewN ?_ _) | (with_reducible refine Kd.C_drew ?_))); (case side4 => exact HC1_1.out); rintro e w' ⟨rfl, ⟨nd, rfl⟩⟩; refine ⟨_, rfl, ?_⟩))
   go_ret
   exact ⟨by first | rfl | (simp [errW_none, errW_some] <;> rfl) | (simp [*, errW_none, errW_some] <;> rfl), by repeat (first | (with_reducible first | exact HB.out | apply below_alloc | apply pw_below_drewN | apply below_drew1 | refine below_set ?_ GE266.out | refine below_set ?_ GE267.out) | exact HB.out)⟩
 ·replace c4 := Bool.eq_false_iff.mpr c4
  subst c4
  have H1 : (some false) = some r := by rw [if_neg (show ¬ (false = true) by decide)] at H; exact H
  clear H
  have H := H1
  clear H1
  obtain rfl := Option.some.inj H
  go_enter Try.func44, Try.ntmps44
  go_wp2_with (first | ((with_reducible refine gate_dst (N := 2) rfl ?_); refine box_event ?hg (N := 2) ?hd (cs := #[.slice A0_0 l0_0.length c0_0, .slice A0_1 l0_1.length c0_1, .slice A0_2 l0_2.length c0_2]) (t := 39) ?hr ?_; (case hd => rfl); (case hg => rfl); (case hr => first | (go_simp; done) | (go_simp; rfl)); intro gb266 hg w24 hbox hb; have n0_ := Aside0.mk (below_step Bd_1 hb); have n1_ := Aside0.mk (hbox); have n2_ := Aside0.mk ((by rw [hg]; exact (below_size Bd_1) : w.heap.size ≤ gb266)); have n3_ := Aside0.mk ((by rw [hg]; exact (below_size Bd_1) : w.heap.size ≤ gb266)); clear HB; have HB := n0_; have BK266 := n1_; have GW266 := n2_; have GE266 := n3_; clear n0_ n1_ n2_ n3_; clear hb hbox hg) | ((with_reducible refine gate_dst (N := 3) rfl ?_); refine box_event ?hg (N := 3) ?hd (cs := #[.slice A1_0 l1_0.length c1_0, .slice A1_1 l1_1.length c1_1, .slice A1_2 l1_2.length c1_2]) (t := 39) ?hr ?_; (case hd => rfl); (case hg => rfl); (case hr => first | (go_simp; done) | (go_simp; rfl)); intro gb267 hg w25 hbox hb; have n0_ := Aside0.mk (blk_below (g := gb266) (o := .cells #[.slice A0_0 l0_0.length c0_0, .slice A0_1 l0_1.length c0_1, .slice A0_2 l0_2.length c0_2] 39 (0, 0)) Bd_7 hb); have n1_ := Aside0.mk (below_step Bd_3 hb); have n2_ := Aside0.mk (hbox); have n3_ := Aside0.mk ((by rw [hg]; exact (below_size Bd_3) : w.heap.size ≤ gb267)); have n4_ := Aside0.mk ((by rw [hg]; exact (below_size Bd_3) : w.heap.size ≤ gb267)); have n5_ := Aside0.mk ((by rw [hg]; exact Nat.ne_of_lt (blk_lt (g := gb266) (o := .cells #[.slice A0_0 l0_0.length c0_0, .slice A0_1 l0_1.length c0_1, .slice A0_2 l0_2.length c0_2] 39 (0, 0)) Bd_7) : gb266 ≠ gb267)); have n6_ := Aside0.mk ((by rw [hg]; exact Nat.ne_of_gt (blk_lt (g := gb266) (o := .cells #[.slice A0_0 l0_0.length c0_0, .slice A0_1 l0_1.length c0_1, .slice A0_2 l0_2.length c0_2] 39 (0, 0)) Bd_7) : gb267 ≠ gb266)); clear BK266; clear HB; have BK266 := n0_; have HB := n1_; have BK267 := n2_; have GW267 := n3_; have GE267 := n4_; have NB266_267 := n5_; have NB267_266 := n6_; clear n0_ n1_ n2_ n3_ n4_ n5_ n6_; clear hb hbox hg; have hnb26 := NB266_267.out; have hnc26 := NB267_266.out; have hcz27_0 : w25.cell? ⟨gb266, 0, none⟩ = some (.slice A0_0 l0_0.length c0_0) := (blk_cell BK266.out 0).trans rfl; have hcz27_1 : w25.cell? ⟨gb266, 1, none⟩ = some (.slice A0_1 l0_1.length c0_1) := (blk_cell BK266.out 1).trans rfl; have hcz27_2 : w25.cell? ⟨gb266, 2, none⟩ = some (.slice A0_2 l0_2.length c0_2) := (blk_cell BK266.out 2).trans rfl; have hfz27_0 := blk_frozen BK266.out 0; have hfz27_1 := blk_frozen BK266.out 1; have hfz27_2 := blk_frozen BK266.out 2; have hcz28_0 : w25.cell? ⟨gb267, 0, none⟩ = some (.slice A1_0 l1_0.length c1_0) := (blk_cell BK267.out 0).trans rfl; have hcz28_1 : w25.cell? ⟨gb267, 1, none⟩ = some (.slice A1_1 l1_1.length c1_1) := (blk_cell BK267.out 1).trans rfl; have hcz28_2 : w25.cell? ⟨gb267, 2, none⟩ = some (.slice A1_2 l1_2.length c1_2) := (blk_cell BK267.out 2).trans rfl; have hfz28_0 := blk_frozen BK267.out 0; have hfz28_1 := blk_frozen BK267.out 1; have hfz28_2 := blk_frozen BK267.out 2) | ((with_reducible refine gate_callee (f := 96) rfl ?_); refine goesL_ (some 9) rfl rfl Try.func96 (by kernel_rfl) rfl #[.slice A0_0 l0_0.length c0_0, .slice A1_0 l1_0.length c1_0] rfl Bd_0 ?_; (with_reducible refine (laws_eqIntS.calls k _ _ l0_0 _ _ l1_0 false _ ?side1 ?side2 ?side3 ?side4 A3.out).mono ?_); (case side1 => repeat (first | exact (Kd.C_below HR0_0.out HB.out) | (with_reducible refine Kd.C_alloc ?_ _) | (with_reducible refine Kd.C_drewN ?_ _) | (with_reducible refine Kd.C_drew ?_))); (case side2 => exact HC0_0.out); (case side3 => repeat (first | exact (Kd.C_below HR1_0.out HB.out) | (with_reducible refine Kd.C_alloc ?_ _) | (with_reducible refine Kd.C_drewN ?_ _) | (with_reducible refine Kd.C_drew ?_))); (case side4 => exact HC1_0.out); rintro e w' ⟨rfl, ⟨nd, rfl⟩⟩; refine ⟨_, rfl, ?_⟩))
  go_ret
  exact ⟨by first | rfl | (simp [errW_none, errW_some] <;> rfl) | (simp [*, errW_none, errW_some] <;> rfl), by repeat (first | (with_reducible first | exact HB.out | apply below_alloc | apply pw_below_drewN | apply below_drew1 | refine below_set ?_ GE266.out | refine below_set ?_ GE267.out) | exact HB.out)⟩
end Go.Proofs.Ytjmhhgnknjfnlaa.PFnExactReadLayout
namespace Go.Proofs.Ytjmhhgnknjfnlaa.PFnExactReadLayout
open Go.RowKit Go.Proofs.YtjmhhgnknjfnlaaW.PrintWords Go.Proofs.YtjmhhgnknjfnlaaW.PrintLast Go.Proofs.YtjmhhgnknjfnlaaW.PrintMore
attribute [local go_sem] max2_int min2_int max_two min_two max_three min_three max_four min_four
set_option linter.unusedVariables false
set_option linter.unusedSimpArgs false
def laws_markIntS.l0 : Nat → List Int → Int → Int → Option (Int × List Int)
 | 0, _, _, _ => none
 | k + 1, x0, x1, x5 => if x5 < (x0.length : Int) then (if 0 ≤ x5 then (laws_markIntS.l0 k (x0.set (x5 : Int).toNat x1) (wrap64 (x1 + 1)) (wrap64 (x5 + 1))) else (none)) else (some (x1, x0))
def laws_markIntS.f (k : Nat) (l0 : List Int) (a1 : Int) : Option (Int × List Int) := laws_markIntS.l0 k l0 a1 0
theorem laws_markIntS.mono_l : ∀ k, (∀ y0 y1 y2, LeO (laws_markIntS.l0 k y0 y1 y2) (laws_markIntS.l0 (k + 1) y0 y1 y2))
 | 0 => fun _ _ _ r h => by simp [laws_markIntS.l0] at h
 | k + 1 => by
  have ih0 := laws_markIntS.mono_l k
  ·intro y0 y1 y2
   unfold laws_markIntS.l0
   repeat' first
   | (with_reducible exact ih0 _ _ _)
   | (with_reducible exact LeO.refl _)
   | (with_reducible exact LeO.none _)
   | (with_reducible refine LeO.ite ?_ ?_)
   | (with_reducible refine LeO.bind ?_ (fun _ => ?_))
   | exact ih0 _ _ _
   | exact LeO.none _
   | refine LeO.ite ?_ ?_
   | refine LeO.bind ?_ (fun _ => ?_)
theorem laws_markIntS.mono : ∀ a0 a1 k, LeO (laws_markIntS.f k a0 a1) (laws_markIntS.f (k + 1) a0 a1) := by
 intro a0 a1 k
 have ih0 := laws_markIntS.mono_l k
 unfold laws_markIntS.f
 repeat' first
   | (with_reducible exact ih0 _ _ _)
   | (with_reducible exact LeO.refl _)
   | (with_reducible exact LeO.none _)
   | (with_reducible refine LeO.ite ?_ ?_)
   | (with_reducible refine LeO.bind ?_ (fun _ => ?_))
   | exact ih0 _ _ _
   | exact LeO.none _
   | refine LeO.ite ?_ ?_
   | refine LeO.bind ?_ (fun _ => ?_)
set_option maxHeartbeats 8000000 in
set_option maxRecDepth 100000 in
theorem laws_markIntS.calls (k : Nat) (P0_ : Nat → Prop) (u9000_ : Value) (l0 : List Int) (a1 : Int) (r1 : Int) (r2 : List Int) (w0 w : World) (hB : Below w0.heap.size w0 w) (ho0 : Kd.R (Kd.int .i64) 3 w w0.heap.size P0_ u9000_ l0) (h : laws_markIntS.f k l0 a1 = some (r1, r2)) :
  Calls Try.prog 100 #[u9000_, .int .i64 a1] w fun e w' => e = .returned (.int .i64 r1) ∧ Kd.R (Kd.int .i64) 3 w' w0.heap.size (fun k_ => (P0_ k_ ∨ w.heap.size ≤ k_)) u9000_ r2 ∧ Below w0.heap.size w0 w' ∧ Kept w w' (fun k_ => P0_ k_) := by
 have HO0 := Aside0.mk (show Kd.R (Kd.int .i64) 3 w w0.heap.size (fun k_ => (P0_ k_ ∨ w.heap.size ≤ k_)) u9000_ l0 from Kd.R_mono ho0 (fun k_ hk => (.inl hk)))
 have HK := Aside0.mk (Kept.refl w (fun k_ => P0_ k_))
 have HW0 := Aside0.mk hB.size
 have HB := Aside0.mk hB
 clear hB
 have H : (laws_markIntS.l0 k l0 a1 0) = some (r1, r2) := h
 clear h
 have H' := Aside0.mk H
 clear H
 go_enter Try.func100, Try.ntmps100
 go_wp2
 go_loopg [1, 5] k (fun kq v1 v5 w' => ∃ (x0_1 : List Int) (x1_1 : Int) (x5_1 : Int), v1 = .int .i64 x1_1 ∧ v5 = .int .i64 x5_1 ∧ Aside0 (laws_markIntS.l0 kq x0_1 x1_1 x5_1 = some (r1, r2)) ∧ Aside0 (kq ≤ k) ∧ Aside0 (Kd.R (Kd.int .i64) 3 w' w0.heap.size (fun k_ => (P0_ k_ ∨ w.heap.size ≤ k_)) u9000_ x0_1) ∧ Aside0 (Kept w w' (fun k_ => P0_ k_)) ∧ Aside0 (Below w0.heap.size w0 w'))
 case atStart => exact ⟨(l0), (a1), (0), Bd_36, Bd_36, H', ⟨Nat.le_refl _⟩, ⟨by (with_reducible repeat (first | apply Kd.R_alloc | apply Kd.R_drewN | apply Kd.R_drew)); exact HO0.out⟩, ⟨by repeat (first | (with_reducible first | exact HK.out | apply Kept.alloc | apply Kept.drewN | apply Kept.drew) | exact HK.out)⟩, ⟨by repeat (first | (with_reducible first | exact HB.out | apply below_alloc | apply pw_below_drewN | apply below_drew1) | exact HB.out)⟩⟩
 case round =>
  clear H'
  try clear c1; try clear p2
  obtain ⟨x0_1, x1_1, x5_1, rfl, rfl, HA, HK1, HO_0, HK, HB⟩ := hrel
  cases gk with
  | zero => exact absurd HA.out (by simp [laws_markIntS.l0])
  | succ k1 =>
   have H := HA.out
   clear HA
   simp only [laws_markIntS.l0] at H
   by_cases c3 : x5_1 < (x0_1.length : Int)
   ·rw [if_pos c3] at H
    have c3b0 : decide (x5_1 < (x0_1.length : Int)) = true := decide_eq_true c3
    clear c3
    by_cases c4 : 0 ≤ x5_1
    ·rw [if_pos c4] at H
     have c4b0 : decide (0 ≤ x5_1) = true := decide_eq_true c4
     clear c4
     obtain ⟨y271, hy271⟩ : ∃ y_ : List Int, y_ = (x0_1.set (x5_1 : Int).toNat x1_1) := ⟨_, rfl⟩
     replace H : (laws_markIntS.l0 k1 y271 (wrap64 (x1_1 + 1)) (wrap64 (x5_1 + 1))) = some (r1, r2) := by first | (rw [hy271]; with_reducible exact H) | (have H2_ := (Option.bind_some _ _).symm.trans H; rw [hy271]; with_reducible exact H2_) | (have H2_ := (Option.bind_some _ _).symm.trans H; with_reducible exact H2_) | with_reducible exact H | (rw [hy271]; exact H) | exact H
     have Ny271 := Aside0.mk hy271
     clear hy271
     have H' := Aside0.mk H
     clear H
     obtain ⟨Ao6, co6, eo6⟩ := Kd.R_slice HO_0.out
     subst eo6
     have p5 : 0 ≤ (x5_1 : Int) := of_decide_eq_true Bd_35
     have q5 : (x5_1 : Int) < ((x0_1.length : Int) : Int) := of_decide_eq_true Bd_35
     obtain ⟨go5, co5, eo5, gb5, gl5, cl5, HG5⟩ := Kd.R_form HO_0.out (by omega)
     (first | cases eo5 | (injection eo5 with ea_ en_ ec_; (first | subst ea_ | (injection ea_ with ea_; subst ea_)); subst ec_; clear en_))
     have GB5 := Aside0.mk gb5
     have GG5 := Aside0.mk HG5
     clear gb5 gl5 HG5
     have HMgo5 := Aside0.mk (show (P0_ go5 ∨ w.heap.size ≤ go5) from (HO_0.out.1 _ rfl))
     obtain ⟨hx5_0, hf5_0⟩ := Kd.R_celln 0 HO_0.out (x5_1 : Int) p5 q5
     replace p5 := eq_true p5
     replace q5 := eq_true q5
     have HP7 := Kd.R_putg HO_0.out (x5_1 : Int) x1_1
     go_wp2_with (first | ((with_reducible refine gate_store (t := 3) (p := 15) rfl ?_); refine store_event (t := 3) (p := 15) (v := ?vo_w8) (w1 := (wr.setCell ⟨go5, (x5_1 : Int).toNat, none⟩ (.int .i64 x1_1))) ?hg ?ho ?hn ?hr ?_; (case ho => rfl); (case hg => rfl); (case hn => rfl); (case hr => first | (go_simp; done) | (go_simp; rfl)); intro w8 hw; have hg : wr.grownBy w8 (some go5) := (by rw [hw]; exact HP7.2); have hp_ : Kd.R (Kd.int .i64) 3 w8 w0.heap.size (fun k_ => (P0_ k_ ∨ w.heap.size ≤ k_)) (.slice (some ⟨go5, 0, none⟩) x0_1.length co6) y271 := (by rw [hw, Ny271.out]; exact HP7.1); clear HP7; have n0_ := Aside0.mk (hp_); have n1_ := Aside0.mk ((by rw [hw]; exact below_set (HB.out) GB5.out : Below w0.heap.size w0 w8)); have n2_ := Aside0.mk (Kept.of_grown (S := (fun k_ => P0_ k_)) hg Bd_49 (fun k_ e_ => (HO_0.out.1 k_ e_))); clear HO_0; clear HB; clear HK; have HO_0 := n0_; have HB := n1_; have HK := n2_; clear n0_ n1_ n2_; clear hg hw hp_))
     go_roundg k1
     case measure => have := HK1.out; omega
     case rel => exact ⟨(y271), (wrap64 (x1_1 + 1)), (wrap64 (x5_1 + 1)), Bd_36, Bd_36, H', ⟨by have := HK1.out; omega⟩, ⟨by (with_reducible repeat (first | apply Kd.R_alloc | apply Kd.R_drewN | apply Kd.R_drew)); exact HO_0.out⟩, ⟨by repeat (first | (with_reducible first | exact HK.out | apply Kept.alloc | apply Kept.drewN | apply Kept.drew) | exact HK.out)⟩, ⟨by repeat (first | (with_reducible first | exact HB.out | apply below_alloc | apply pw_below_drewN | apply below_drew1) | exact HB.out)⟩⟩
    ·rw [if_neg c4] at H
     exact absurd H (by simp)
   ·rw [if_neg c3] at H
    have c3b0 : decide (x5_1 < (x0_1.length : Int)) = false := decide_eq_false c3
    clear c3
    simp only [Option.some.injEq, Prod.mk.injEq] at H
    obtain ⟨rfl, rfl⟩ := H
    obtain ⟨Ao9, co9, eo9⟩ := Kd.R_slice HO_0.out
    subst eo9
    go_wp2
    go_ret
    exact ⟨by first | rfl | (simp [errW_none, errW_some] <;> rfl) | (simp [*, errW_none, errW_some] <;> rfl), by (with_reducible repeat (first | apply Kd.R_alloc | apply Kd.R_drewN | apply Kd.R_drew)); exact HO_0.out, by repeat (first | (with_reducible first | exact HB.out | apply below_alloc | apply pw_below_drewN | apply below_drew1) | exact HB.out), by repeat (first | (with_reducible first | exact HK.out | apply Kept.alloc | apply Kept.drewN | apply Kept.drew) | exact HK.out)⟩
end Go.Proofs.Ytjmhhgnknjfnlaa.PFnExactReadLayout
namespace Go.Proofs.Ytjmhhgnknjfnlaa.PFnExactReadLayout
open Go.RowKit Go.Proofs.YtjmhhgnknjfnlaaW.PrintWords Go.Proofs.YtjmhhgnknjfnlaaW.PrintLast Go.Proofs.YtjmhhgnknjfnlaaW.PrintMore
attribute [local go_sem] max2_int min2_int max_two min_two max_three min_three max_four min_four
set_option linter.unusedVariables false
set_option linter.unusedSimpArgs false
def laws_markLayout.f (k : Nat) (l0_0 : List Int) (l0_1 : List Int) (l0_2 : List Int) (a1 : Int) : Option (Int × List Int × List Int × List Int) := (laws_markIntS.f k l0_0 a1).bind fun bt273 => ((laws_markIntS.f k l0_1 bt273.1).bind fun bt275 => ((laws_markIntS.f k l0_2 bt275.1).bind fun bt277 => (some (bt277.1, bt273.2, bt275.2, bt277.2))))
theorem laws_markLayout.mono : ∀ a0 a1 a2 a3 k, LeO (laws_markLayout.f k a0 a1 a2 a3) (laws_markLayout.f (k + 1) a0 a1 a2 a3) := by
 intro a0 a1 a2 a3 k
 unfold laws_markLayout.f
 repeat' first
   | (with_reducible exact laws_markIntS.mono _ _ _)
   | (with_reducible exact LeO.refl _)
   | (with_reducible exact LeO.none _)
   | (with_reducible refine LeO.ite ?_ ?_)
   | (with_reducible refine LeO.bind ?_ (fun _ => ?_))
   | exact laws_markIntS.mono _ _ _
   | exact LeO.none _
   | refine LeO.ite ?_ ?_
   | refine LeO.bind ?_ (fun _ => ?_)
set_option maxHeartbeats 8000000 in
set_option maxRecDepth 100000 in
theorem laws_markLayout.calls (k : Nat) (P0_0_ : Nat → Prop) (u9000_ : Value) (l0_0 : List Int) (P0_1_ : Nat → Prop) (u9001_ : Value) (l0_1 : List Int) (P0_2_ : Nat → Prop) (u9002_ : Value) (l0_2 : List Int) (a1 : Int) (r1 : Int) (r2 : List Int) (r3 : List Int) (r4 : List Int) (w0 w : World) (hB : Below w0.heap.size w0 w) (ho0_0 : Kd.R (Kd.int .i64) 3 w w0.heap.size P0_0_ u9000_ l0_0) (hp0_0_0_1 : ∀ k_, P0_0_ k_ → ¬ P0_1_ k_) (hp0_0_0_2 : ∀ k_, P0_0_ k_ → ¬ P0_2_ k_) (ho0_1 : Kd.R (Kd.int .i64) 3 w w0.heap.size P0_1_ u9001_ l0_1) (hp0_1_0_0 : ∀ k_, P0_1_ k_ → ¬ P0_0_ k_) (hp0_1_0_2 : ∀ k_, P0_1_ k_ → ¬ P0_2_ k_) (ho0_2 : Kd.R (Kd.int .i64) 3 w w0.heap.size P0_2_ u9002_ l0_2) (hp0_2_0_0 : ∀ k_, P0_2_ k_ → ¬ P0_0_ k_) (hp0_2_0_1 : ∀ k_, P0_2_ k_ → ¬ P0_1_ k_) (h : laws_markLayout.f k l0_0 l0_1 l0_2 a1 = some (r1, r2, r3, r4)) :
  Calls Try.prog 45 #[.agg #[u9000_, u9001_, u9002_], .int .i64 a1] w fun e w' => e = .returned (.int .i64 r1) ∧ Kd.R (Kd.int .i64) 3 w' w0.heap.size (fun k_ => ((P0_0_ k_ ∨ P0_1_ k_ ∨ P0_2_ k_) ∨ w.heap.size ≤ k_)) u9000_ r2 ∧ Kd.R (Kd.int .i64) 3 w' w0.heap.size (fun k_ => ((P0_0_ k_ ∨ P0_1_ k_ ∨ P0_2_ k_) ∨ w.heap.size ≤ k_)) u9001_ r3 ∧ Kd.R (Kd.int .i64) 3 w' w0.heap.size (fun k_ => ((P0_0_ k_ ∨ P0_1_ k_ ∨ P0_2_ k_) ∨ w.heap.size ≤ k_)) u9002_ r4 ∧ Below w0.heap.size w0 w' ∧ Kept w w' (fun k_ => P0_0_ k_ ∨ P0_1_ k_ ∨ P0_2_ k_) := by
 have hu39 := Try.underlying39
 have HO0_0 := Aside0.mk (show Kd.R (Kd.int .i64) 3 w w0.heap.size (fun k_ => ((P0_0_ k_ ∨ P0_1_ k_ ∨ P0_2_ k_) ∨ w.heap.size ≤ k_) ∧ some k_ ≠ (u9001_ : Value).ownBlock ∧ some k_ ≠ (u9002_ : Value).ownBlock) u9000_ l0_0 from Kd.R_mono ho0_0 (fun k_ hk => ⟨(.inl (.inl hk)), fun e_ => hp0_0_0_1 k_ hk (ho0_1.1 k_ e_.symm), fun e_ => hp0_0_0_2 k_ hk (ho0_2.1 k_ e_.symm)⟩))
 have HO0_1 := Aside0.mk (show Kd.R (Kd.int .i64) 3 w w0.heap.size (fun k_ => ((P0_0_ k_ ∨ P0_1_ k_ ∨ P0_2_ k_) ∨ w.heap.size ≤ k_) ∧ some k_ ≠ (u9000_ : Value).ownBlock ∧ some k_ ≠ (u9002_ : Value).ownBlock) u9001_ l0_1 from Kd.R_mono ho0_1 (fun k_ hk => ⟨(.inl (.inr (.inl hk))), fun e_ => hp0_1_0_0 k_ hk (ho0_0.1 k_ e_.symm), fun e_ => hp0_1_0_2 k_ hk (ho0_2.1 k_ e_.symm)⟩))
 have HO0_2 := Aside0.mk (show Kd.R (Kd.int .i64) 3 w w0.heap.size (fun k_ => ((P0_0_ k_ ∨ P0_1_ k_ ∨ P0_2_ k_) ∨ w.heap.size ≤ k_) ∧ some k_ ≠ (u9000_ : Value).ownBlock ∧ some k_ ≠ (u9001_ : Value).ownBlock) u9002_ l0_2 from Kd.R_mono ho0_2 (fun k_ hk => ⟨(.inl (.inr (.inr hk))), fun e_ => hp0_2_0_0 k_ hk (ho0_0.1 k_ e_.symm), fun e_ => hp0_2_0_1 k_ hk (ho0_1.1 k_ e_.symm)⟩))
 have HK := Aside0.mk (Kept.refl w (fun k_ => P0_0_ k_ ∨ P0_1_ k_ ∨ P0_2_ k_))
 have HW0 := Aside0.mk hB.size
 have HB := Aside0.mk hB
 clear hB
 have H : ((laws_markIntS.f k l0_0 a1).bind fun bt273 => ((laws_markIntS.f k l0_1 bt273.1).bind fun bt275 => ((laws_markIntS.f k l0_2 bt275.1).bind fun bt277 => (some (bt277.1, bt273.2, bt275.2, bt277.2))))) = some (r1, r2, r3, r4) := h
 clear h
 replace H := Option.bind_eq_some_iff.mp H
 obtain ⟨⟨t273, t274⟩, A30, H⟩ := H
 replace H : ((laws_markIntS.f k l0_1 t273).bind fun bt275 => ((laws_markIntS.f k l0_2 bt275.1).bind fun bt277 => (some (bt277.1, t274, bt275.2, bt277.2)))) = some (r1, r2, r3, r4) := H
 have A3 := Aside0.mk A30
 clear A30
 replace H := Option.bind_eq_some_iff.mp H
 obtain ⟨⟨t275, t276⟩, A40, H⟩ := H
 replace H : ((laws_markIntS.f k l0_2 t275).bind fun bt277 => (some (bt277.1, t274, t276, bt277.2))) = some (r1, r2, r3, r4) := H
 have A4 := Aside0.mk A40
 clear A40
 replace H := Option.bind_eq_some_iff.mp H
 obtain ⟨⟨t277, t278⟩, A50, H⟩ := H
 replace H : (some (t277, t274, t276, t278)) = some (r1, r2, r3, r4) := H
 have A5 := Aside0.mk A50
 clear A50
 simp only [Option.some.injEq, Prod.mk.injEq] at H
 obtain ⟨rfl, rfl, rfl, rfl⟩ := H
 obtain ⟨Ao6, co6, eo6⟩ := Kd.R_slice HO0_0.out
 subst eo6
 obtain ⟨Ao7, co7, eo7⟩ := Kd.R_slice HO0_1.out
 subst eo7
 obtain ⟨Ao8, co8, eo8⟩ := Kd.R_slice HO0_2.out
 subst eo8
 go_enter Try.func45, Try.ntmps45
 go_wp2_with (first | ((with_reducible refine gate_dst (N := 2) rfl ?_); refine box_event ?hg (N := 2) ?hd (cs := #[.slice Ao6 l0_0.length co6, .slice Ao7 l0_1.length co7, .slice Ao8 l0_2.length co8]) (t := 39) ?hr ?_; (case hd => rfl); (case hg => rfl); (case hr => first | (go_simp; done) | (go_simp; rfl)); intro gb272 hg w9 hbox hb; have n0_ := Aside0.mk (Kd.R_below (by (with_reducible repeat (first | apply Kd.R_alloc | apply Kd.R_drewN | apply Kd.R_drew)); exact HO0_0.out) hb); have n1_ := Aside0.mk (Kd.R_below (by (with_reducible repeat (first | apply Kd.R_alloc | apply Kd.R_drewN | apply Kd.R_drew)); exact HO0_1.out) hb); have n2_ := Aside0.mk (Kd.R_below (by (with_reducible repeat (first | apply Kd.R_alloc | apply Kd.R_drewN | apply Kd.R_drew)); exact HO0_2.out) hb); have n3_ := Aside0.mk (Kept.below (S := (fun k_ => P0_0_ k_ ∨ P0_1_ k_ ∨ P0_2_ k_)) Bd_49 hb); have n4_ := Aside0.mk (below_step Bd_1 hb); have n5_ := Aside0.mk (hbox); have n6_ := Aside0.mk ((by rw [hg]; exact (by first | exact HK.out.1 | exact (show Kept w _ (fun k_ => P0_0_ k_ ∨ P0_1_ k_ ∨ P0_2_ k_) from by repeat (first | (with_reducible first | exact HK.out | apply Kept.alloc | apply Kept.drewN | apply Kept.drew) | exact HK.out)).1) : w.heap.size ≤ gb272)); have n7_ := Aside0.mk ((by rw [hg]; exact (below_size Bd_1) : w0.heap.size ≤ gb272)); clear HO0_0; clear HO0_1; clear HO0_2; clear HK; clear HB; have HO0_0 := n0_; have HO0_1 := n1_; have HO0_2 := n2_; have HK := n3_; have HB := n4_; have BK272 := n5_; have GW272 := n6_; have GE272 := n7_; clear n0_ n1_ n2_ n3_ n4_ n5_ n6_ n7_; clear hb hbox hg; have hcz10_0 : w9.cell? ⟨gb272, 0, none⟩ = some (.slice Ao6 l0_0.length co6) := (blk_cell BK272.out 0).trans rfl; have hcz10_1 : w9.cell? ⟨gb272, 1, none⟩ = some (.slice Ao7 l0_1.length co7) := (blk_cell BK272.out 1).trans rfl; have hcz10_2 : w9.cell? ⟨gb272, 2, none⟩ = some (.slice Ao8 l0_2.length co8) := (blk_cell BK272.out 2).trans rfl; have hfz10_0 := blk_frozen BK272.out 0; have hfz10_1 := blk_frozen BK272.out 1; have hfz10_2 := blk_frozen BK272.out 2) | ((with_reducible refine gate_callee (f := 100) rfl ?_); refine goesL_ (some 8) rfl rfl Try.func100 (by kernel_rfl) rfl #[.slice Ao6 l0_0.length co6, .int .i64 a1] rfl Bd_0 ?_; (with_reducible refine (laws_markIntS.calls k (fun k_ => some k_ = (.slice Ao6 l0_0.length co6 : Value).ownBlock) (.slice Ao6 l0_0.length co6) l0_0 a1 t273 t274 w0 _ ?side1 ?side2 A3.out).mono ?_); (case side1 => repeat (first | (with_reducible first | exact HB.out | apply below_alloc | apply pw_below_drewN | apply below_drew1 | refine below_set ?_ GE272.out) | exact HB.out)); (case side2 => exact Kd.R_tight rfl HO0_0.out); rintro e w11 ⟨rfl, hy0, hb, hkp⟩; refine ⟨_, rfl, ?_⟩; have n0_ := Aside0.mk (Kd.R_reok rfl hy0 (fun k_ e_ => HO0_0.out.1 k_ e_)); have n1_ := Aside0.mk (Kd.R_mono (ok' := fun k_ => ((P0_0_ k_ ∨ P0_1_ k_ ∨ P0_2_ k_) ∨ w.heap.size ≤ k_) ∧ some k_ ≠ (.slice Ao6 l0_0.length co6 : Value).ownBlock ∧ some k_ ≠ (.slice Ao8 l0_2.length co8 : Value).ownBlock) (Kd.R_keptB (HO0_1.out) hkp (fun k_ hk_ hs_ => (hk_.2.1) hs_)) (fun k_ hk_ => ⟨hk_.1.1, hk_.1.2.1, hk_.1.2.2⟩)); have n2_ := Aside0.mk (Kd.R_mono (ok' := fun k_ => ((P0_0_ k_ ∨ P0_1_ k_ ∨ P0_2_ k_) ∨ w.heap.size ≤ k_) ∧ some k_ ≠ (.slice Ao6 l0_0.length co6 : Value).ownBlock ∧ some k_ ≠ (.slice Ao7 l0_1.length co7 : Value).ownBlock) (Kd.R_keptB (HO0_2.out) hkp (fun k_ hk_ hs_ => (hk_.2.1) hs_)) (fun k_ hk_ => ⟨hk_.1.1, hk_.1.2.1, hk_.1.2.2⟩)); have n3_ := Aside0.mk (blk_kept Bd_44 hkp (fun hs_ => (fun e_ => (Kd.R_ne HO0_0.out BK272.out (by decide)) e_) hs_)); have n4_ := Aside0.mk (Kept.then_ (S := (fun k_ => P0_0_ k_ ∨ P0_1_ k_ ∨ P0_2_ k_)) Bd_43 hkp (fun k_ hs_ => (fun e_ => (HO0_0.out.1 k_ e_.symm).1) hs_)); have n5_ := Aside0.mk (hb); clear HO0_0; clear HO0_1; clear HO0_2; clear BK272; clear HK; clear HB; have HO0_0 := n0_; have HO0_1 := n1_; have HO0_2 := n2_; have BK272 := n3_; have HK := n4_; have HB := n5_; clear n0_ n1_ n2_ n3_ n4_ n5_; (try clear hb); (try clear hkp); (try clear hy0); have hcz12_0 : w11.cell? ⟨gb272, 0, none⟩ = some (.slice Ao6 l0_0.length co6) := (blk_cell BK272.out 0).trans rfl; have hcz12_1 : w11.cell? ⟨gb272, 1, none⟩ = some (.slice Ao7 l0_1.length co7) := (blk_cell BK272.out 1).trans rfl; have hcz12_2 : w11.cell? ⟨gb272, 2, none⟩ = some (.slice Ao8 l0_2.length co8) := (blk_cell BK272.out 2).trans rfl; have hfz12_0 := blk_frozen BK272.out 0; have hfz12_1 := blk_frozen BK272.out 1; have hfz12_2 := blk_frozen BK272.out 2) | ((with_reducible refine gate_callee (f := 100) rfl ?_); refine goesL_ (some 12) rfl rfl Try.func100 (by kernel_rfl) rfl #[.slice Ao7 l0_1.length co7, .int .i64 t273] rfl Bd_0 ?_; (with_reducible refine (laws_markIntS.calls k (fun k_ => some k_ = (.slice Ao7 l0_1.length co7 : Value).ownBlock) (.slice Ao7 l0_1.length co7) l0_1 t273 t275 t276 w0 _ ?side1 ?side2 A4.out).mono ?_); (case side1 => repeat (first | (with_reducible first | exact HB.out | apply below_alloc | apply pw_below_drewN | apply below_drew1 | refine below_set ?_ GE272.out) | exact HB.out)); (case side2 => exact Kd.R_tight rfl HO0_1.out); rintro e w13 ⟨rfl, hy0, hb, hkp⟩; refine ⟨_, rfl, ?_⟩; have n0_ := Aside0.mk (Kd.R_mono (ok' := fun k_ => ((P0_0_ k_ ∨ P0_1_ k_ ∨ P0_2_ k_) ∨ w.heap.size ≤ k_) ∧ some k_ ≠ (.slice Ao7 l0_1.length co7 : Value).ownBlock ∧ some k_ ≠ (.slice Ao8 l0_2.length co8 : Value).ownBlock) (Kd.R_keptB (HO0_0.out) hkp (fun k_ hk_ hs_ => (hk_.2.1) hs_)) (fun k_ hk_ => ⟨hk_.1.1, hk_.1.2.1, hk_.1.2.2⟩)); have n1_ := Aside0.mk (Kd.R_reok rfl hy0 (fun k_ e_ => HO0_1.out.1 k_ e_)); have n2_ := Aside0.mk (Kd.R_mono (ok' := fun k_ => ((P0_0_ k_ ∨ P0_1_ k_ ∨ P0_2_ k_) ∨ w.heap.size ≤ k_) ∧ some k_ ≠ (.slice Ao6 l0_0.length co6 : Value).ownBlock ∧ some k_ ≠ (.slice Ao7 l0_1.length co7 : Value).ownBlock) (Kd.R_keptB (HO0_2.out) hkp (fun k_ hk_ hs_ => (hk_.2.2) hs_)) (fun k_ hk_ => ⟨hk_.1.1, hk_.1.2.1, hk_.1.2.2⟩)); have n3_ := Aside0.mk (blk_kept Bd_44 hkp (fun hs_ => (fun e_ => (Kd.R_ne HO0_1.out BK272.out (by decide)) e_) hs_)); have n4_ := Aside0.mk (Kept.then_ (S := (fun k_ => P0_0_ k_ ∨ P0_1_ k_ ∨ P0_2_ k_)) Bd_43 hkp (fun k_ hs_ => (fun e_ => (HO0_1.out.1 k_ e_.symm).1) hs_)); have n5_ := Aside0.mk (hb); clear HO0_0; clear HO0_1; clear HO0_2; clear BK272; clear HK; clear HB; have HO0_0 := n0_; have HO0_1 := n1_; have HO0_2 := n2_; have BK272 := n3_; have HK := n4_; have HB := n5_; clear n0_ n1_ n2_ n3_ n4_ n5_; (try clear hb); (try clear hkp); (try clear hy0); have hcz14_0 : w13.cell? ⟨gb272, 0, none⟩ = some (.slice Ao6 l0_0.length co6) := (blk_cell BK272.out 0).trans rfl; have hcz14_1 : w13.cell? ⟨gb272, 1, none⟩ = some (.slice Ao7 l0_1.length co7) := (blk_cell BK272.out 1).trans rfl; have hcz14_2 : w13.cell? ⟨gb272, 2, none⟩ = some (.slice Ao8 l0_2.length co8) := (blk_cell BK272.out 2).trans rfl; have hfz14_0 := blk_frozen BK272.out 0; have hfz14_1 := blk_frozen BK272.out 1; have hfz14_2 := blk_frozen BK272.out 2) | ((with_reducible refine gate_callee (f := 100) rfl ?_); refine goesL_ (some 16) rfl rfl Try.func100 (by kernel_rfl) rfl #[.slice Ao8 l0_2.length co8, .int .i64 t275] rfl Bd_0 ?_; (with_reducible refine (laws_markIntS.calls k (fun k_ => some k_ = (.slice Ao8 l0_2.length co8 : Value).ownBlock) (.slice Ao8 l0_2.length co8) l0_2 t275 t277 t278 w0 _ ?side1 ?side2 A5.out).mono ?_); (case side1 => repeat (first | (with_reducible first | exact HB.out | apply below_alloc | apply pw_below_drewN | apply below_drew1 | refine below_set ?_ GE272.out) | exact HB.out)); (case side2 => exact Kd.R_tight rfl HO0_2.out); rintro e w15 ⟨rfl, hy0, hb, hkp⟩; refine ⟨_, rfl, ?_⟩; have n0_ := Aside0.mk (Kd.R_mono (ok' := fun k_ => ((P0_0_ k_ ∨ P0_1_ k_ ∨ P0_2_ k_) ∨ w.heap.size ≤ k_) ∧ some k_ ≠ (.slice Ao7 l0_1.length co7 : Value).ownBlock ∧ some k_ ≠ (.slice Ao8 l0_2.length co8 : Value).ownBlock) (Kd.R_keptB (HO0_0.out) hkp (fun k_ hk_ hs_ => (hk_.2.2) hs_)) (fun k_ hk_ => ⟨hk_.1.1, hk_.1.2.1, hk_.1.2.2⟩)); have n1_ := Aside0.mk (Kd.R_mono (ok' := fun k_ => ((P0_0_ k_ ∨ P0_1_ k_ ∨ P0_2_ k_) ∨ w.heap.size ≤ k_) ∧ some k_ ≠ (.slice Ao6 l0_0.length co6 : Value).ownBlock ∧ some k_ ≠ (.slice Ao8 l0_2.length co8 : Value).ownBlock) (Kd.R_keptB (HO0_1.out) hkp (fun k_ hk_ hs_ => (hk_.2.2) hs_)) (fun k_ hk_ => ⟨hk_.1.1, hk_.1.2.1, hk_.1.2.2⟩)); have n2_ := Aside0.mk (Kd.R_reok rfl hy0 (fun k_ e_ => HO0_2.out.1 k_ e_)); have n3_ := Aside0.mk (blk_kept Bd_44 hkp (fun hs_ => (fun e_ => (Kd.R_ne HO0_2.out BK272.out (by decide)) e_) hs_)); have n4_ := Aside0.mk (Kept.then_ (S := (fun k_ => P0_0_ k_ ∨ P0_1_ k_ ∨ P0_2_ k_)) Bd_43 hkp (fun k_ hs_ => (fun e_ => (HO0_2.out.1 k_ e_.symm).1) hs_)); have n5_ := Aside0.mk (hb); clear HO0_0; clear HO0_1; clear HO0_2; clear BK272; clear HK; clear HB; have HO0_0 := n0_; have HO0_1 := n1_; have HO0_2 := n2_; have BK272 := n3_; have HK := n4_; have HB := n5_; clear n0_ n1_ n2_ n3_ n4_ n5_; (try clear hb); (try clear hkp); (try clear hy0)))
 go_ret
 exact ⟨by first | rfl | (simp [errW_none, errW_some] <;> rfl) | (simp [*, errW_none, errW_some] <;> rfl), by (with_reducible repeat (first | apply Kd.R_alloc | apply Kd.R_drewN | apply Kd.R_drew)); exact Kd.R_mono HO0_0.out (fun _ hk => hk.1), by (with_reducible repeat (first | apply Kd.R_alloc | apply Kd.R_drewN | apply Kd.R_drew)); exact Kd.R_mono HO0_1.out (fun _ hk => hk.1), by (with_reducible repeat (first | apply Kd.R_alloc | apply Kd.R_drewN | apply Kd.R_drew)); exact Kd.R_mono HO0_2.out (fun _ hk => hk.1), by repeat (first | (with_reducible first | exact HB.out | apply below_alloc | apply pw_below_drewN | apply below_drew1 | refine below_set ?_ GE272.out) | exact HB.out), by repeat (first | (with_reducible first | exact HK.out | apply Kept.alloc | apply Kept.drewN | apply Kept.drew | refine Kept.setCell ?_ (.inr GW272.out) _) | exact HK.out)⟩
end Go.Proofs.Ytjmhhgnknjfnlaa.PFnExactReadLayout
namespace Go.Proofs.Ytjmhhgnknjfnlaa.PFnExactReadLayout
open Go.RowKit Go.Proofs.YtjmhhgnknjfnlaaW.PrintWords Go.Proofs.YtjmhhgnknjfnlaaW.PrintLast Go.Proofs.YtjmhhgnknjfnlaaW.PrintMore
attribute [local go_sem] max2_int min2_int max_two min_two max_three min_three max_four min_four
set_option linter.unusedVariables false
set_option linter.unusedSimpArgs false
def laws_heldIntS.l0 : Nat → List Int → Int → Int → Option (Int)
 | 0, _, _, _ => none
 | k + 1, x0, x1, x5 => if x5 < (x0.length : Int) then (if 0 ≤ x5 then (if (rd x0 x5) = x1 then (laws_heldIntS.l0 k x0 (wrap64 (x1 + 1)) (wrap64 (x5 + 1))) else (some (-1))) else (none)) else (some x1)
def laws_heldIntS.f (k : Nat) (l0 : List Int) (a1 : Int) : Option (Int) := laws_heldIntS.l0 k l0 a1 0
theorem laws_heldIntS.mono_l : ∀ k, (∀ y0 y1 y2, LeO (laws_heldIntS.l0 k y0 y1 y2) (laws_heldIntS.l0 (k + 1) y0 y1 y2))
 | 0 => fun _ _ _ r h => by simp [laws_heldIntS.l0] at h
 | k + 1 => by
  have ih0 := laws_heldIntS.mono_l k
  ·intro y0 y1 y2
   unfold laws_heldIntS.l0
   repeat' first
   | (with_reducible exact ih0 _ _ _)
   | (with_reducible exact LeO.refl _)
   | (with_reducible exact LeO.none _)
   | (with_reducible refine LeO.ite ?_ ?_)
   | (with_reducible refine LeO.bind ?_ (fun _ => ?_))
   | exact ih0 _ _ _
   | exact LeO.none _
   | refine LeO.ite ?_ ?_
   | refine LeO.bind ?_ (fun _ => ?_)
theorem laws_heldIntS.mono : ∀ a0 a1 k, LeO (laws_heldIntS.f k a0 a1) (laws_heldIntS.f (k + 1) a0 a1) := by
 intro a0 a1 k
 have ih0 := laws_heldIntS.mono_l k
 unfold laws_heldIntS.f
 repeat' first
   | (with_reducible exact ih0 _ _ _)
   | (with_reducible exact LeO.refl _)
   | (with_reducible exact LeO.none _)
   | (with_reducible refine LeO.ite ?_ ?_)
   | (with_reducible refine LeO.bind ?_ (fun _ => ?_))
   | exact ih0 _ _ _
   | exact LeO.none _
   | refine LeO.ite ?_ ?_
   | refine LeO.bind ?_ (fun _ => ?_)
set_option maxHeartbeats 8000000 in
set_option maxRecDepth 100000 in
theorem laws_heldIntS.calls (k : Nat) (A0 : Option Addr) (c0 : Nat) (l0 : List Int) (a1 : Int) (r : Int) (w : World) (hr0 : Kd.C (Kd.int .i64) w A0 l0.length l0) (hc0 : l0.length ≤ c0) (h : laws_heldIntS.f k l0 a1 = some r) :
  Calls Try.prog 101 #[.slice A0 l0.length c0, .int .i64 a1] w fun e w' => e = .returned (.int .i64 r) ∧ Drawn0 w w' := by
 have HR0 := Aside0.mk hr0
 have HC0 := Aside0.mk hc0
 clear hr0 hc0
 have H : (laws_heldIntS.l0 k l0 a1 0) = some r := h
 clear h
 have H' := Aside0.mk H
 clear H
 go_enter Try.func101, Try.ntmps101
 go_wp2
 go_loopg [1, 5] k (fun kq v1 v5 w' => ∃ (x1_1 : Int) (x5_1 : Int), v1 = .int .i64 x1_1 ∧ v5 = .int .i64 x5_1 ∧ Aside0 (laws_heldIntS.l0 kq l0 x1_1 x5_1 = some r) ∧ Aside0 (kq ≤ k) ∧ Drawn0 w w')
 case atStart => exact ⟨(a1), (0), Bd_36, Bd_36, H', ⟨Nat.le_refl _⟩, by repeat (first | exact Drawn0.refl _ | apply Drawn0.step)⟩
 case round =>
  clear H'
  try clear c1; try clear p2
  obtain ⟨x1_1, x5_1, rfl, rfl, HA, HK1, ⟨m1, rfl⟩⟩ := hrel
  cases gk with
  | zero => exact absurd HA.out (by simp [laws_heldIntS.l0])
  | succ k1 =>
   have H := HA.out
   clear HA
   simp only [laws_heldIntS.l0] at H
   by_cases c3 : x5_1 < (l0.length : Int)
   ·rw [if_pos c3] at H
    have c3b0 : decide (x5_1 < (l0.length : Int)) = true := decide_eq_true c3
    clear c3
    by_cases c4 : 0 ≤ x5_1
    ·rw [if_pos c4] at H
     have c4b0 : decide (0 ≤ x5_1) = true := decide_eq_true c4
     clear c4
     by_cases c5 : (rd l0 x5_1) = x1_1
     ·rw [if_pos c5] at H
      have c5b0 : ((rd l0 x5_1) == x1_1) = true := beq_iff_eq.mpr c5
      have c5b1 : ((rd l0 x5_1) != x1_1) = false := bne_eq_false_iff_eq.mpr c5
      clear c5
      have H' := Aside0.mk H
      clear H
      have p279 : 0 ≤ (x5_1 : Int) := of_decide_eq_true Bd_35
      have q279 : x5_1 < (l0.length : Int) := of_decide_eq_true Bd_35
      obtain ⟨ad279, e279, hx279_0⟩ := Kd.at_int HR0.out x5_1 p279 q279
      cases e279
      replace p279 := eq_true p279
      replace q279 := eq_true q279
      go_wp2
      go_roundg k1
      case measure => have := HK1.out; omega
      case rel => exact ⟨(wrap64 (x1_1 + 1)), (wrap64 (x5_1 + 1)), Bd_36, Bd_36, H', ⟨by have := HK1.out; omega⟩, by repeat (first | exact Drawn0.refl _ | apply Drawn0.step)⟩
     ·rw [if_neg c5] at H
      have c5b0 : ((rd l0 x5_1) == x1_1) = false := beq_eq_false_iff_ne.mpr c5
      have c5b1 : ((rd l0 x5_1) != x1_1) = true := bne_iff_ne.mpr c5
      obtain rfl := Option.some.inj H
      have p279 : 0 ≤ (x5_1 : Int) := of_decide_eq_true Bd_35
      have q279 : x5_1 < (l0.length : Int) := of_decide_eq_true Bd_35
      obtain ⟨ad279, e279, hx279_0⟩ := Kd.at_int HR0.out x5_1 p279 q279
      cases e279
      replace p279 := eq_true p279
      replace q279 := eq_true q279
      go_wp2
      go_ret
      exact ⟨by first | rfl | (simp; done) | (simp [*]; done), by repeat (first | exact Drawn0.refl _ | apply Drawn0.step)⟩
    ·rw [if_neg c4] at H
     exact absurd H (by simp)
   ·rw [if_neg c3] at H
    have c3b0 : decide (x5_1 < (l0.length : Int)) = false := decide_eq_false c3
    clear c3
    obtain rfl := Option.some.inj H
    go_wp2
    go_ret
    exact ⟨by first | rfl | (simp; done) | (simp [*]; done), by repeat (first | exact Drawn0.refl _ | apply Drawn0.step)⟩
end Go.Proofs.Ytjmhhgnknjfnlaa.PFnExactReadLayout
namespace Go.Proofs.Ytjmhhgnknjfnlaa.PFnExactReadLayout
open Go.RowKit Go.Proofs.YtjmhhgnknjfnlaaW.PrintWords Go.Proofs.YtjmhhgnknjfnlaaW.PrintLast Go.Proofs.YtjmhhgnknjfnlaaW.PrintMore
attribute [local go_sem] max2_int min2_int max_two min_two max_three min_three max_four min_four
set_option linter.unusedVariables false
set_option linter.unusedSimpArgs false
def laws_heldLayout.f (k : Nat) (l0_0 : List Int) (l0_1 : List Int) (l0_2 : List Int) (a1 : Int) : Option (Int) := (laws_heldIntS.f k l0_0 a1).bind fun t281 => (if t281 < 0 then (some (-1)) else ((laws_heldIntS.f k l0_1 t281).bind fun t282 => (if t282 < 0 then (some (-1)) else ((laws_heldIntS.f k l0_2 t282).bind fun t283 => (if t283 < 0 then (some (-1)) else (some t283))))))
theorem laws_heldLayout.mono : ∀ a0 a1 a2 a3 k, LeO (laws_heldLayout.f k a0 a1 a2 a3) (laws_heldLayout.f (k + 1) a0 a1 a2 a3) := by
 intro a0 a1 a2 a3 k
 unfold laws_heldLayout.f
 repeat' first
   | (with_reducible exact laws_heldIntS.mono _ _ _)
   | (with_reducible exact LeO.refl _)
   | (with_reducible exact LeO.none _)
   | (with_reducible refine LeO.ite ?_ ?_)
   | (with_reducible refine LeO.bind ?_ (fun _ => ?_))
   | exact laws_heldIntS.mono _ _ _
   | exact LeO.none _
   | refine LeO.ite ?_ ?_
   | refine LeO.bind ?_ (fun _ => ?_)
set_option maxHeartbeats 8000000 in
set_option maxRecDepth 100000 in
theorem laws_heldLayout.calls (k : Nat) (A0_0 : Option Addr) (c0_0 : Nat) (l0_0 : List Int) (A0_1 : Option Addr) (c0_1 : Nat) (l0_1 : List Int) (A0_2 : Option Addr) (c0_2 : Nat) (l0_2 : List Int) (a1 : Int) (r : Int) (w : World) (hr0_0 : Kd.C (Kd.int .i64) w A0_0 l0_0.length l0_0) (hc0_0 : l0_0.length ≤ c0_0) (hr0_1 : Kd.C (Kd.int .i64) w A0_1 l0_1.length l0_1) (hc0_1 : l0_1.length ≤ c0_1) (hr0_2 : Kd.C (Kd.int .i64) w A0_2 l0_2.length l0_2) (hc0_2 : l0_2.length ≤ c0_2) (h : laws_heldLayout.f k l0_0 l0_1 l0_2 a1 = some r) :
  Calls Try.prog 46 #[.agg #[.slice A0_0 l0_0.length c0_0, .slice A0_1 l0_1.length c0_1, .slice A0_2 l0_2.length c0_2], .int .i64 a1] w fun e w' => e = .returned (.int .i64 r) ∧ Below w.heap.size w w' := by
 have hu39 := Try.underlying39
 have HR0_0 := Aside0.mk hr0_0
 have HC0_0 := Aside0.mk hc0_0
 clear hr0_0 hc0_0
 have HR0_1 := Aside0.mk hr0_1
 have HC0_1 := Aside0.mk hc0_1
 clear hr0_1 hc0_1
 have HR0_2 := Aside0.mk hr0_2
 have HC0_2 := Aside0.mk hc0_2
 clear hr0_2 hc0_2
 have HB := Aside0.mk (Below.refl w.heap.size w)
 have H : ((laws_heldIntS.f k l0_0 a1).bind fun t281 => (if t281 < 0 then (some (-1)) else ((laws_heldIntS.f k l0_1 t281).bind fun t282 => (if t282 < 0 then (some (-1)) else ((laws_heldIntS.f k l0_2 t282).bind fun t283 => (if t283 < 0 then (some (-1)) else (some t283))))))) = some r := h
 clear h
 replace H := Option.bind_eq_some_iff.mp H
 obtain ⟨t281, A30, H⟩ := H
 replace H : (if t281 < 0 then (some (-1)) else ((laws_heldIntS.f k l0_1 t281).bind fun t282 => (if t282 < 0 then (some (-1)) else ((laws_heldIntS.f k l0_2 t282).bind fun t283 => (if t283 < 0 then (some (-1)) else (some t283)))))) = some r := H
 have A3 := Aside0.mk A30
 clear A30
 by_cases c4 : t281 < 0
 ·rw [if_pos c4] at H
  have c4b0 : decide (t281 < 0) = true := decide_eq_true c4
  clear c4
  obtain rfl := Option.some.inj H
  go_enter Try.func46, Try.ntmps46
  go_wp2_with (first | ((with_reducible refine gate_dst (N := 2) rfl ?_); refine box_event ?hg (N := 2) ?hd (cs := #[.slice A0_0 l0_0.length c0_0, .slice A0_1 l0_1.length c0_1, .slice A0_2 l0_2.length c0_2]) (t := 39) ?hr ?_; (case hd => rfl); (case hg => rfl); (case hr => first | (go_simp; done) | (go_simp; rfl)); intro gb280 hg w5 hbox hb; have n0_ := Aside0.mk (below_step Bd_1 hb); have n1_ := Aside0.mk (hbox); have n2_ := Aside0.mk ((by rw [hg]; exact (below_size Bd_1) : w.heap.size ≤ gb280)); have n3_ := Aside0.mk ((by rw [hg]; exact (below_size Bd_1) : w.heap.size ≤ gb280)); clear HB; have HB := n0_; have BK280 := n1_; have GW280 := n2_; have GE280 := n3_; clear n0_ n1_ n2_ n3_; clear hb hbox hg; have hcz6_0 : w5.cell? ⟨gb280, 0, none⟩ = some (.slice A0_0 l0_0.length c0_0) := (blk_cell BK280.out 0).trans rfl; have hcz6_1 : w5.cell? ⟨gb280, 1, none⟩ = some (.slice A0_1 l0_1.length c0_1) := (blk_cell BK280.out 1).trans rfl; have hcz6_2 : w5.cell? ⟨gb280, 2, none⟩ = some (.slice A0_2 l0_2.length c0_2) := (blk_cell BK280.out 2).trans rfl; have hfz6_0 := blk_frozen BK280.out 0; have hfz6_1 := blk_frozen BK280.out 1; have hfz6_2 := blk_frozen BK280.out 2) | ((with_reducible refine gate_callee (f := 101) rfl ?_); refine goesL_ (some 8) rfl rfl Try.func101 (by kernel_rfl) rfl #[.slice A0_0 l0_0.length c0_0, .int .i64 a1] rfl Bd_0 ?_; (with_reducible refine (laws_heldIntS.calls k _ _ l0_0 a1 t281 _ ?side1 ?side2 A3.out).mono ?_); (case side1 => repeat (first | exact (Kd.C_below HR0_0.out HB.out) | (with_reducible refine Kd.C_alloc ?_ _) | (with_reducible refine Kd.C_drewN ?_ _) | (with_reducible refine Kd.C_drew ?_))); (case side2 => exact HC0_0.out); rintro e w' ⟨rfl, ⟨nd, rfl⟩⟩; refine ⟨_, rfl, ?_⟩))
  go_ret
  exact ⟨by first | rfl | (simp [errW_none, errW_some] <;> rfl) | (simp [*, errW_none, errW_some] <;> rfl), by repeat (first | (with_reducible first | exact HB.out | apply below_alloc | apply pw_below_drewN | apply below_drew1 | refine below_set ?_ GE280.out) | exact HB.out)⟩
 ·rw [if_neg c4] at H
  have c4b0 : decide (t281 < 0) = false := decide_eq_false c4
  clear c4
  replace H := Option.bind_eq_some_iff.mp H
  obtain ⟨t282, A70, H⟩ := H
  replace H : (if t282 < 0 then (some (-1)) else ((laws_heldIntS.f k l0_2 t282).bind fun t283 => (if t283 < 0 then (some (-1)) else (some t283)))) = some r := H
  have A7 := Aside0.mk A70
  clear A70
  by_cases c8 : t282 < 0
  ·rw [if_pos c8] at H
   have c8b0 : decide (t282 < 0) = true := decide_eq_true c8
   clear c8
   obtain rfl := Option.some.inj H
   go_enter Try.func46, Try.ntmps46
   go_wp2_with (first | ((with_reducible refine gate_dst (N := 2) rfl ?_); refine box_event ?hg (N := 2) ?hd (cs := #[.slice A0_0 l0_0.length c0_0, .slice A0_1 l0_1.length c0_1, .slice A0_2 l0_2.length c0_2]) (t := 39) ?hr ?_; (case hd => rfl); (case hg => rfl); (case hr => first | (go_simp; done) | (go_simp; rfl)); intro gb280 hg w9 hbox hb; have n0_ := Aside0.mk (below_step Bd_1 hb); have n1_ := Aside0.mk (hbox); have n2_ := Aside0.mk ((by rw [hg]; exact (below_size Bd_1) : w.heap.size ≤ gb280)); have n3_ := Aside0.mk ((by rw [hg]; exact (below_size Bd_1) : w.heap.size ≤ gb280)); clear HB; have HB := n0_; have BK280 := n1_; have GW280 := n2_; have GE280 := n3_; clear n0_ n1_ n2_ n3_; clear hb hbox hg; have hcz10_0 : w9.cell? ⟨gb280, 0, none⟩ = some (.slice A0_0 l0_0.length c0_0) := (blk_cell BK280.out 0).trans rfl; have hcz10_1 : w9.cell? ⟨gb280, 1, none⟩ = some (.slice A0_1 l0_1.length c0_1) := (blk_cell BK280.out 1).trans rfl; have hcz10_2 : w9.cell? ⟨gb280, 2, none⟩ = some (.slice A0_2 l0_2.length c0_2) := (blk_cell BK280.out 2).trans rfl; have hfz10_0 := blk_frozen BK280.out 0; have hfz10_1 := blk_frozen BK280.out 1; have hfz10_2 := blk_frozen BK280.out 2) | ((with_reducible refine gate_callee (f := 101) rfl ?_); refine goesL_ (some 8) rfl rfl Try.func101 (by kernel_rfl) rfl #[.slice A0_0 l0_0.length c0_0, .int .i64 a1] rfl Bd_0 ?_; (with_reducible refine (laws_heldIntS.calls k _ _ l0_0 a1 t281 _ ?side1 ?side2 A3.out).mono ?_); (case side1 => repeat (first | exact (Kd.C_below HR0_0.out HB.out) | (with_reducible refine Kd.C_alloc ?_ _) | (with_reducible refine Kd.C_drewN ?_ _) | (with_reducible refine Kd.C_drew ?_))); (case side2 => exact HC0_0.out); rintro e w' ⟨rfl, ⟨nd, rfl⟩⟩; refine ⟨_, rfl, ?_⟩) | ((with_reducible refine gate_callee (f := 101) rfl ?_); refine goesL_ (some 14) rfl rfl Try.func101 (by kernel_rfl) rfl #[.slice A0_1 l0_1.length c0_1, .int .i64 t281] rfl Bd_0 ?_; (with_reducible refine (laws_heldIntS.calls k _ _ l0_1 t281 t282 _ ?side1 ?side2 A7.out).mono ?_); (case side1 => repeat (first | exact (Kd.C_below HR0_1.out Bd_34) | (with_reducible refine Kd.C_alloc ?_ _) | (with_reducible refine Kd.C_drewN ?_ _) | (with_reducible refine Kd.C_drew ?_))); (case side2 => exact HC0_1.out); rintro e w' ⟨rfl, ⟨nd, rfl⟩⟩; refine ⟨_, rfl, ?_⟩))
   go_ret
   exact ⟨by first | rfl | (simp [errW_none, errW_some] <;> rfl) | (simp [*, errW_none, errW_some] <;> rfl), by repeat (first | (with_reducible first | exact HB.out | apply below_alloc | apply pw_below_drewN | apply below_drew1 | refine below_set ?_ GE280.out) | exact HB.out)⟩
  ·rw [if_neg c8] at H
   have c8b0 : decide (t282 < 0) = false := decide_eq_false c8
   clear c8
   replace H := Option.bind_eq_some_iff.mp H
   obtain ⟨t283, A110, H⟩ := H
   replace H : (if t283 < 0 then (some (-1)) else (some t283)) = some r := H
   have A11 := Aside0.mk A110
   clear A110
   by_cases c12 : t283 < 0
   ·rw [if_pos c12] at H
    have c12b0 : decide (t283 < 0) = true := decide_eq_true c12
    clear c12
    obtain rfl := Option.some.inj H
    go_enter Try.func46, Try.ntmps46
    go_wp2_with (first | ((with_reducible refine gate_dst (N := 2) rfl ?_); refine box_event ?hg (N := 2) ?hd (cs := #[.slice A0_0 l0_0.length c0_0, .slice A0_1 l0_1.length c0_1, .slice A0_2 l0_2.length c0_2]) (t := 39) ?hr ?_; (case hd => rfl); (case hg => rfl); (case hr => first | (go_simp; done) | (go_simp; rfl)); intro gb280 hg w13 hbox hb; have n0_ := Aside0.mk (below_step Bd_1 hb); have n1_ := Aside0.mk (hbox); have n2_ := Aside0.mk ((by rw [hg]; exact (below_size Bd_1) : w.heap.size ≤ gb280)); have n3_ := Aside0.mk ((by rw [hg]; exact (below_size Bd_1) : w.heap.size ≤ gb280)); clear HB; have HB := n0_; have BK280 := n1_; have GW280 := n2_; have GE280 := n3_; clear n0_ n1_ n2_ n3_; clear hb hbox hg; have hcz14_0 : w13.cell? ⟨gb280, 0, none⟩ = some (.slice A0_0 l0_0.length c0_0) := (blk_cell BK280.out 0).trans rfl; have hcz14_1 : w13.cell? ⟨gb280, 1, none⟩ = some (.slice A0_1 l0_1.length c0_1) := (blk_cell BK280.out 1).trans rfl; have hcz14_2 : w13.cell? ⟨gb280, 2, none⟩ = some (.slice A0_2 l0_2.length c0_2) := (blk_cell BK280.out 2).trans rfl; have hfz14_0 := blk_frozen BK280.out 0; have hfz14_1 := blk_frozen BK280.out 1; have hfz14_2 := blk_frozen BK280.out 2) | ((with_reducible refine gate_callee (f := 101) rfl ?_); refine goesL_ (some 8) rfl rfl Try.func101 (by kernel_rfl) rfl #[.slice A0_0 l0_0.length c0_0, .int .i64 a1] rfl Bd_0 ?_; (with_reducible refine (laws_heldIntS.calls k _ _ l0_0 a1 t281 _ ?side1 ?side2 A3.out).mono ?_); (case side1 => repeat (first | exact (Kd.C_below HR0_0.out HB.out) | (with_reducible refine Kd.C_alloc ?_ _) | (with_reducible refine Kd.C_drewN ?_ _) | (with_reducible refine Kd.C_drew ?_))); (case side2 => exact HC0_0.out); rintro e w' ⟨rfl, ⟨nd, rfl⟩⟩; refine ⟨_, rfl, ?_⟩) | ((with_reducible refine gate_callee (f := 101) rfl ?_); refine goesL_ (some 14) rfl rfl Try.func101 (by kernel_rfl) rfl #[.slice A0_1 l0_1.length c0_1, .int .i64 t281] rfl Bd_0 ?_; (with_reducible refine (laws_heldIntS.calls k _ _ l0_1 t281 t282 _ ?side1 ?side2 A7.out).mono ?_); (case side1 => repeat (first | exact (Kd.C_below HR0_1.out Bd_34) | (with_reducible refine Kd.C_alloc ?_ _) | (with_reducible refine Kd.C_drewN ?_ _) | (with_reducible refine Kd.C_drew ?_))); (case side2 => exact HC0_1.out); rintro e w' ⟨rfl, ⟨nd, rfl⟩⟩; refine ⟨_, rfl, ?_⟩) | ((with_reducible refine gate_callee (f := 101) rfl ?_); refine goesL_ (some 20) rfl rfl Try.func101 (by kernel_rfl) rfl #[.slice A0_2 l0_2.length c0_2, .int .i64 t282] rfl Bd_0 ?_; (with_reducible refine (laws_heldIntS.calls k _ _ l0_2 t282 t283 _ ?side1 ?side2 A11.out).mono ?_); (case side1 => repeat (first | exact (Kd.C_below HR0_2.out Bd_34) | (with_reducible refine Kd.C_alloc ?_ _) | (with_reducible refine Kd.C_drewN ?_ _) | (with_reducible refine Kd.C_drew ?_))); (case side2 => exact HC0_2.out); rintro e w' ⟨rfl, ⟨nd, rfl⟩⟩; refine ⟨_, rfl, ?_⟩))
    go_ret
    exact ⟨by first | rfl | (simp [errW_none, errW_some] <;> rfl) | (simp [*, errW_none, errW_some] <;> rfl), by repeat (first | (with_reducible first | exact HB.out | apply below_alloc | apply pw_below_drewN | apply below_drew1 | refine below_set ?_ GE280.out) | exact HB.out)⟩
   ·rw [if_neg c12] at H
    have c12b0 : decide (t283 < 0) = false := decide_eq_false c12
    clear c12
    obtain rfl := Option.some.inj H
    go_enter Try.func46, Try.ntmps46
    go_wp2_with (first | ((with_reducible refine gate_dst (N := 2) rfl ?_); refine box_event ?hg (N := 2) ?hd (cs := #[.slice A0_0 l0_0.length c0_0, .slice A0_1 l0_1.length c0_1, .slice A0_2 l0_2.length c0_2]) (t := 39) ?hr ?_; (case hd => rfl); (case hg => rfl); (case hr => first | (go_simp; done) | (go_simp; rfl)); intro gb280 hg w15 hbox hb; have n0_ := Aside0.mk (below_step Bd_1 hb); have n1_ := Aside0.mk (hbox); have n2_ := Aside0.mk ((by rw [hg]; exact (below_size Bd_1) : w.heap.size ≤ gb280)); have n3_ := Aside0.mk ((by rw [hg]; exact (below_size Bd_1) : w.heap.size ≤ gb280)); clear HB; have HB := n0_; have BK280 := n1_; have GW280 := n2_; have GE280 := n3_; clear n0_ n1_ n2_ n3_; clear hb hbox hg; have hcz16_0 : w15.cell? ⟨gb280, 0, none⟩ = some (.slice A0_0 l0_0.length c0_0) := (blk_cell BK280.out 0).trans rfl; have hcz16_1 : w15.cell? ⟨gb280, 1, none⟩ = some (.slice A0_1 l0_1.length c0_1) := (blk_cell BK280.out 1).trans rfl; have hcz16_2 : w15.cell? ⟨gb280, 2, none⟩ = some (.slice A0_2 l0_2.length c0_2) := (blk_cell BK280.out 2).trans rfl; have hfz16_0 := blk_frozen BK280.out 0; have hfz16_1 := blk_frozen BK280.out 1; have hfz16_2 := blk_frozen BK280.out 2) | ((with_reducible refine gate_callee (f := 101) rfl ?_); refine goesL_ (some 8) rfl rfl Try.func101 (by kernel_rfl) rfl #[.slice A0_0 l0_0.length c0_0, .int .i64 a1] rfl Bd_0 ?_; (with_reducible refine (laws_heldIntS.calls k _ _ l0_0 a1 t281 _ ?side1 ?side2 A3.out).mono ?_); (case side1 => repeat (first | exact (Kd.C_below HR0_0.out HB.out) | (with_reducible refine Kd.C_alloc ?_ _) | (with_reducible refine Kd.C_drewN ?_ _) | (with_reducible refine Kd.C_drew ?_))); (case side2 => exact HC0_0.out); rintro e w' ⟨rfl, ⟨nd, rfl⟩⟩; refine ⟨_, rfl, ?_⟩) | ((with_reducible refine gate_callee (f := 101) rfl ?_); refine goesL_ (some 14) rfl rfl Try.func101 (by kernel_rfl) rfl #[.slice A0_1 l0_1.length c0_1, .int .i64 t281] rfl Bd_0 ?_; (with_reducible refine (laws_heldIntS.calls k _ _ l0_1 t281 t282 _ ?side1 ?side2 A7.out).mono ?_); (case side1 => repeat (first | exact (Kd.C_below HR0_1.out Bd_34) | (with_reducible refine Kd.C_alloc ?_ _) | (with_reducible refine Kd.C_drewN ?_ _) | (with_reducible refine Kd.C_drew ?_))); (case side2 => exact HC0_1.out); rintro e w' ⟨rfl, ⟨nd, rfl⟩⟩; refine ⟨_, rfl, ?_⟩) | ((with_reducible refine gate_callee (f := 101) rfl ?_); refine goesL_ (some 20) rfl rfl Try.func101 (by kernel_rfl) rfl #[.slice A0_2 l0_2.length c0_2, .int .i64 t282] rfl Bd_0 ?_; (with_reducible refine (laws_heldIntS.calls k _ _ l0_2 t282 t283 _ ?side1 ?side2 A11.out).mono ?_); (case side1 => repeat (first | exact (Kd.C_below HR0_2.out Bd_34) | (with_reducible refine Kd.C_alloc ?_ _) | (with_reducible refine Kd.C_drewN ?_ _) | (with_reducible refine Kd.C_drew ?_))); (case side2 => exact HC0_2.out); rintro e w' ⟨rfl, ⟨nd, rfl⟩⟩; refine ⟨_, rfl, ?_⟩))
    go_ret
    exact ⟨by first | rfl | (simp [errW_none, errW_some] <;> rfl) | (simp [*, errW_none, errW_some] <;> rfl), by repeat (first | (with_reducible first | exact HB.out | apply below_alloc | apply pw_below_drewN | apply below_drew1 | refine below_set ?_ GE280.out) | exact HB.out)⟩
end Go.Proofs.Ytjmhhgnknjfnlaa.PFnExactReadLayout
namespace Go.Proofs.Ytjmhhgnknjfnlaa.PFnExactReadLayout
open Go.RowKit Go.Proofs.YtjmhhgnknjfnlaaW.PrintWords Go.Proofs.YtjmhhgnknjfnlaaW.PrintLast Go.Proofs.YtjmhhgnknjfnlaaW.PrintMore
attribute [local go_sem] max2_int min2_int max_two min_two max_three min_three max_four min_four
set_option linter.unusedVariables false
set_option linter.unusedSimpArgs false
mutual
def laws_FnExactReadLayout.j0 : Nat → ByteArray → Bool → Bool → List Int → List Int → List Int → List Int → List Int → List Int → Option (Bool)
 | 0, _, _, _, _, _, _, _, _, _ => none
 | k + 1, x0, x4, x32, x295000, x295001, x295002, x306000, x306001, x306002 => if x32 = true then (some false) else ((laws_markLayout.f k x306000 x306001 x306002 1).bind fun bt307 => ((laws_heldLayout.f k bt307.2.1 bt307.2.2.1 bt307.2.2.2 1).bind fun t311 => (if t311 < 0 then (some false) else (if t311 = bt307.1 then ((impl_ReadLayout.f k x0).bind fun bt312 => ((laws_eqLayout.f k bt312.1 bt312.2.1 bt312.2.2.1 x295000 x295001 x295002).bind fun t323 => (if t323 = true then (laws_FnExactReadLayout.j1 k bt307.1 (bt312.2.2.2 != x4) bt307.2.1 bt307.2.2.1 bt307.2.2.2) else (laws_FnExactReadLayout.j1 k bt307.1 true bt307.2.1 bt307.2.2.1 bt307.2.2.2)))) else (some false)))))
def laws_FnExactReadLayout.j1 : Nat → Int → Bool → List Int → List Int → List Int → Option (Bool)
 | 0, _, _, _, _, _ => none
 | k + 1, x7, x57, x306000, x306001, x306002 => if x57 = true then (some false) else ((laws_heldLayout.f k x306000 x306001 x306002 1).bind fun t324 => (if t324 < 0 then (some false) else (if t324 = x7 then (some true) else (some false))))
end
def laws_FnExactReadLayout.f (k : Nat) (a0 : ByteArray) : Option (Bool) := if (a0.size : Int) > 1048576 then (some true) else ((spec_ReadLayout.f k a0).bind fun bt284 => ((impl_ReadLayout.f k a0).bind fun bt295 => ((laws_eqLayout.f k bt295.1 bt295.2.1 bt295.2.2.1 bt284.1 bt284.2.1 bt284.2.2.1).bind fun t306 => (if t306 = true then (laws_FnExactReadLayout.j0 k a0 bt284.2.2.2 (bt295.2.2.2 != bt284.2.2.2) bt284.1 bt284.2.1 bt284.2.2.1 bt295.1 bt295.2.1 bt295.2.2.1) else (laws_FnExactReadLayout.j0 k a0 bt284.2.2.2 true bt284.1 bt284.2.1 bt284.2.2.1 bt295.1 bt295.2.1 bt295.2.2.1)))))
theorem laws_FnExactReadLayout.mono_l : ∀ k, (∀ y0 y1 y2 y3 y4 y5 y6 y7 y8, LeO (laws_FnExactReadLayout.j0 k y0 y1 y2 y3 y4 y5 y6 y7 y8) (laws_FnExactReadLayout.j0 (k + 1) y0 y1 y2 y3 y4 y5 y6 y7 y8)) ∧ (∀ y0 y1 y2 y3 y4, LeO (laws_FnExactReadLayout.j1 k y0 y1 y2 y3 y4) (laws_FnExactReadLayout.j1 (k + 1) y0 y1 y2 y3 y4))
 | 0 => ⟨fun _ _ _ _ _ _ _ _ _ r h => by simp [laws_FnExactReadLayout.j0] at h, fun _ _ _ _ _ r h => by simp [laws_FnExactReadLayout.j1] at h⟩
 | k + 1 => by
  obtain ⟨ih0, ih1⟩ := laws_FnExactReadLayout.mono_l k
  refine ⟨?_, ?_⟩
  ·intro y0 y1 y2 y3 y4 y5 y6 y7 y8
   unfold laws_FnExactReadLayout.j0
   repeat' first
   | (with_reducible exact ih0 _ _ _ _ _ _ _ _ _)
   | (with_reducible exact ih1 _ _ _ _ _)
   | (with_reducible exact impl_ReadLayout.mono _ _)
   | (with_reducible exact laws_eqLayout.mono _ _ _ _ _ _ _)
   | (with_reducible exact laws_heldLayout.mono _ _ _ _ _)
   | (with_reducible exact laws_markLayout.mono _ _ _ _ _)
   | (with_reducible exact spec_ReadLayout.mono _ _)
   | (with_reducible exact LeO.refl _)
   | (with_reducible exact LeO.none _)
   | (with_reducible refine LeO.ite ?_ ?_)
   | (with_reducible refine LeO.bind ?_ (fun _ => ?_))
   | exact ih0 _ _ _ _ _ _ _ _ _
   | exact ih1 _ _ _ _ _
   | exact impl_ReadLayout.mono _ _
   | exact laws_eqLayout.mono _ _ _ _ _ _ _
   | exact laws_heldLayout.mono _ _ _ _ _
   | exact laws_markLayout.mono _ _ _ _ _
   | exact spec_ReadLayout.mono _ _
   | exact LeO.none _
   | refine LeO.ite ?_ ?_
   | refine LeO.bind ?_ (fun _ => ?_)
  ·intro y0 y1 y2 y3 y4
   unfold laws_FnExactReadLayout.j1
   repeat' first
   | (with_reducible exact ih0 _ _ _ _ _ _ _ _ _)
   | (with_reducible exact ih1 _ _ _ _ _)
   | (with_reducible exact impl_ReadLayout.mono _ _)
   | (with_reducible exact laws_eqLayout.mono _ _ _ _ _ _ _)
   | (with_reducible exact laws_heldLayout.mono _ _ _ _ _)
   | (with_reducible exact laws_markLayout.mono _ _ _ _ _)
   | (with_reducible exact spec_ReadLayout.mono _ _)
   | (with_reducible exact LeO.refl _)
   | (with_reducible exact LeO.none _)
   | (with_reducible refine LeO.ite ?_ ?_)
   | (with_reducible refine LeO.bind ?_ (fun _ => ?_))
   | exact ih0 _ _ _ _ _ _ _ _ _
   | exact ih1 _ _ _ _ _
   | exact impl_ReadLayout.mono _ _
   | exact laws_eqLayout.mono _ _ _ _ _ _ _
   | exact laws_heldLayout.mono _ _ _ _ _
   | exact laws_markLayout.mono _ _ _ _ _
   | exact spec_ReadLayout.mono _ _
   | exact LeO.none _
   | refine LeO.ite ?_ ?_
   | refine LeO.bind ?_ (fun _ => ?_)
theorem laws_FnExactReadLayout.mono : ∀ a0 k, LeO (laws_FnExactReadLayout.f k a0) (laws_FnExactReadLayout.f (k + 1) a0) := by
 intro a0 k
 obtain ⟨ih0, ih1⟩ := laws_FnExactReadLayout.mono_l k
 unfold laws_FnExactReadLayout.f
 repeat' first
   | (with_reducible exact ih0 _ _ _ _ _ _ _ _ _)
   | (with_reducible exact ih1 _ _ _ _ _)
   | (with_reducible exact impl_ReadLayout.mono _ _)
   | (with_reducible exact laws_eqLayout.mono _ _ _ _ _ _ _)
   | (with_reducible exact laws_heldLayout.mono _ _ _ _ _)
   | (with_reducible exact laws_markLayout.mono _ _ _ _ _)
   | (with_reducible exact spec_ReadLayout.mono _ _)
   | (with_reducible exact LeO.refl _)
   | (with_reducible exact LeO.none _)
   | (with_reducible refine LeO.ite ?_ ?_)
   | (with_reducible refine LeO.bind ?_ (fun _ => ?_))
   | exact ih0 _ _ _ _ _ _ _ _ _
   | exact ih1 _ _ _ _ _
   | exact impl_ReadLayout.mono _ _
   | exact laws_eqLayout.mono _ _ _ _ _ _ _
   | exact laws_heldLayout.mono _ _ _ _ _
   | exact laws_markLayout.mono _ _ _ _ _
   | exact spec_ReadLayout.mono _ _
   | exact LeO.none _
   | refine LeO.ite ?_ ?_
   | refine LeO.bind ?_ (fun _ => ?_)
set_option maxHeartbeats 8000000 in
set_option maxRecDepth 100000 in
theorem laws_FnExactReadLayout.calls (k : Nat) (a0 : ByteArray) (r : Bool) (w : World) (h : laws_FnExactReadLayout.f k a0 = some r) :
  Calls Try.prog 8 #[.string a0] w fun e w' => e = .returned (.bool r) ∧ Below w.heap.size w w' := by
 have hu39 := Try.underlying39
 have HB := Aside0.mk (Below.refl w.heap.size w)
 have H : (if (a0.size : Int) > 1048576 then (some true) else ((spec_ReadLayout.f k a0).bind fun bt284 => ((impl_ReadLayout.f k a0).bind fun bt295 => ((laws_eqLayout.f k bt295.1 bt295.2.1 bt295.2.2.1 bt284.1 bt284.2.1 bt284.2.2.1).bind fun t306 => (if t306 = true then (laws_FnExactReadLayout.j0 k a0 bt284.2.2.2 (bt295.2.2.2 != bt284.2.2.2) bt284.1 bt284.2.1 bt284.2.2.1 bt295.1 bt295.2.1 bt295.2.2.1) else (laws_FnExactReadLayout.j0 k a0 bt284.2.2.2 true bt284.1 bt284.2.1 bt284.2.2.1 bt295.1 bt295.2.1 bt295.2.2.1)))))) = some r := h
 clear h
 by_cases c2 : (a0.size : Int) > 1048576
 ·rw [if_pos c2] at H
  have c2b0 : decide (1048576 < (a0.size : Int)) = true := decide_eq_true c2
  have c2b1 : decide (1048576 < a0.size) = true := decide_eq_true (by omega)
  clear c2
  obtain rfl := Option.some.inj H
  go_enter Try.func8, Try.ntmps8
  go_wp2
  go_ret
  exact ⟨by first | rfl | (simp [errW_none, errW_some] <;> rfl) | (simp [*, errW_none, errW_some] <;> rfl), by repeat (first | (with_reducible first | exact HB.out | apply below_alloc | apply pw_below_drewN | apply below_drew1) | exact HB.out)⟩
 ·rw [if_neg c2] at H
  have c2b0 : decide (1048576 < (a0.size : Int)) = false := decide_eq_false c2
  have c2b1 : decide (1048576 < a0.size) = false := decide_eq_false (by omega)
  clear c2
  replace H := Option.bind_eq_some_iff.mp H
  obtain ⟨⟨t284, t287, t290, t293⟩, A30, H⟩ := H
  replace H : ((impl_ReadLayout.f k a0).bind fun bt295 => ((laws_eqLayout.f k bt295.1 bt295.2.1 bt295.2.2.1 t284 t287 t290).bind fun t306 => (if t306 = true then (laws_FnExactReadLayout.j0 k a0 t293 (bt295.2.2.2 != t293) t284 t287 t290 bt295.1 bt295.2.1 bt295.2.2.1) else (laws_FnExactReadLayout.j0 k a0 t293 true t284 t287 t290 bt295.1 bt295.2.1 bt295.2.2.1)))) = some r := H
  have A3 := Aside0.mk A30
  clear A30
  replace H := Option.bind_eq_some_iff.mp H
  obtain ⟨⟨t295, t298, t301, t304⟩, A40, H⟩ := H
  replace H : ((laws_eqLayout.f k t295 t298 t301 t284 t287 t290).bind fun t306 => (if t306 = true then (laws_FnExactReadLayout.j0 k a0 t293 (t304 != t293) t284 t287 t290 t295 t298 t301) else (laws_FnExactReadLayout.j0 k a0 t293 true t284 t287 t290 t295 t298 t301))) = some r := H
  have A4 := Aside0.mk A40
  clear A40
  have HC5 := Aside0.mk H
  clear H
  go_enter Try.func8, Try.ntmps8
  go_upto_region 5 with (first | ((with_reducible refine gate_callee (f := 43) rfl ?_); refine goesL_ (some 16) rfl rfl Try.func43 (by kernel_rfl) rfl #[.string a0] rfl Bd_0 ?_; (with_reducible refine (spec_ReadLayout.calls k a0 t284 t287 t290 t293 _ A3.out).mono ?_); rintro e w6 ⟨v285, v288, v291, rfl, ho0, ho1, ho2, hb⟩; refine ⟨_, rfl, ?_⟩; have n0_ := Aside0.mk (Kd.R_lower ho0 (below_size Bd_1)); have n1_ := Aside0.mk (Kd.R_lower ho1 (below_size Bd_1)); have n2_ := Aside0.mk (Kd.R_lower ho2 (below_size Bd_1)); have n3_ := Aside0.mk (below_step Bd_1 hb); clear HB; have HO286 := n0_; have HO289 := n1_; have HO292 := n2_; have HB := n3_; clear n0_ n1_ n2_ n3_; (try clear hb); (try clear hb2); (try clear hk); (try clear hi); (try clear ho0); (try clear ho1); (try clear ho2)) | ((with_reducible refine gate_dst (N := 3) rfl ?_); refine box_event ?hg (N := 3) ?hd (cs := #[.slice none 0 0, .slice none 0 0, .slice none 0 0]) (t := 39) ?hr ?_; (case hd => rfl); (case hg => rfl); (case hr => first | (go_simp; done) | (go_simp; rfl)); intro gb294 hg w7 hbox hb; have n0_ := Aside0.mk (Kd.R_below Bd_50 hb); have n1_ := Aside0.mk (Kd.R_below Bd_51 hb); have n2_ := Aside0.mk (Kd.R_below Bd_52 hb); have n3_ := Aside0.mk (below_step Bd_1 hb); have n4_ := Aside0.mk (hbox); have n5_ := Aside0.mk ((by rw [hg]; exact (below_size Bd_1) : w.heap.size ≤ gb294)); have n6_ := Aside0.mk ((by rw [hg]; exact (below_size Bd_1) : w.heap.size ≤ gb294)); clear HO286; clear HO289; clear HO292; clear HB; have HO286 := n0_; have HO289 := n1_; have HO292 := n2_; have HB := n3_; have BK294 := n4_; have GW294 := n5_; have GE294 := n6_; clear n0_ n1_ n2_ n3_ n4_ n5_ n6_; clear hb hbox hg; obtain ⟨Ao8, co8, eo8⟩ := Kd.R_slice HO286.out; subst eo8; have hcz9_0 : w7.cell? ⟨gb294, 0, none⟩ = some (.slice none 0 0) := (blk_cell BK294.out 0).trans rfl; have hcz9_1 : w7.cell? ⟨gb294, 1, none⟩ = some (.slice none 0 0) := (blk_cell BK294.out 1).trans rfl; have hcz9_2 : w7.cell? ⟨gb294, 2, none⟩ = some (.slice none 0 0) := (blk_cell BK294.out 2).trans rfl; have hfz9_0 := blk_frozen BK294.out 0; have hfz9_1 := blk_frozen BK294.out 1; have hfz9_2 := blk_frozen BK294.out 2; obtain ⟨Ao10, co10, eo10⟩ := Kd.R_slice HO289.out; subst eo10; obtain ⟨Ao11, co11, eo11⟩ := Kd.R_slice HO292.out; subst eo11) | ((with_reducible refine gate_callee (f := 24) rfl ?_); refine goesL_ (some 21) rfl rfl Try.func24 (by kernel_rfl) rfl #[.string a0] rfl Bd_0 ?_; (with_reducible refine (impl_ReadLayout.calls k a0 t295 t298 t301 t304 _ A4.out).mono ?_); rintro e w12 ⟨v296, v299, v302, rfl, ho0, ho1, ho2, hb⟩; refine ⟨_, rfl, ?_⟩; have n0_ := Aside0.mk (Kd.R_mono (Kd.R_told (Kd.R_told (Kd.R_told (Kd.R_old Bd_20 hb) (Kd.R_base ho0)) (Kd.R_base ho1)) (Kd.R_base ho2)) (fun _ h_ => h_.1)); have n1_ := Aside0.mk (Kd.R_mono (Kd.R_told (Kd.R_told (Kd.R_told (Kd.R_old Bd_21 hb) (Kd.R_base ho0)) (Kd.R_base ho1)) (Kd.R_base ho2)) (fun _ h_ => h_.1)); have n2_ := Aside0.mk (Kd.R_mono (Kd.R_told (Kd.R_told (Kd.R_told (Kd.R_old Bd_22 hb) (Kd.R_base ho0)) (Kd.R_base ho1)) (Kd.R_base ho2)) (fun _ h_ => h_.1)); have n3_ := Aside0.mk (Kd.R_lower (Kd.R_new' (Kd.R_new' (Kd.R_new' ho0 (Kd.R_lt Bd_20)) (Kd.R_lt Bd_21)) (Kd.R_lt Bd_22)) (below_size Bd_29)); have n4_ := Aside0.mk (Kd.R_lower (Kd.R_new' (Kd.R_new' (Kd.R_new' ho1 (Kd.R_lt Bd_20)) (Kd.R_lt Bd_21)) (Kd.R_lt Bd_22)) (below_size Bd_29)); have n5_ := Aside0.mk (Kd.R_lower (Kd.R_new' (Kd.R_new' (Kd.R_new' ho2 (Kd.R_lt Bd_20)) (Kd.R_lt Bd_21)) (Kd.R_lt Bd_22)) (below_size Bd_29)); have n6_ := Aside0.mk (blk_below (g := gb294) (o := .cells #[.slice Ao8 t284.length co8, .slice Ao10 t287.length co10, .slice Ao11 t290.length co11] 39 (0, 0)) (by (with_reducible repeat (first | refine blk_drewN ?_ _ | refine blk_drew ?_ | refine blk_alloc ?_ _)); refine blk_put (cs := #[.slice Ao8 t284.length co8, .slice Ao10 t287.length co10, .slice none 0 0]) ?_ 2 _ rfl; (with_reducible repeat (first | refine blk_drewN ?_ _ | refine blk_drew ?_ | refine blk_alloc ?_ _)); refine blk_put (cs := #[.slice Ao8 t284.length co8, .slice none 0 0, .slice none 0 0]) ?_ 1 _ rfl; (with_reducible repeat (first | refine blk_drewN ?_ _ | refine blk_drew ?_ | refine blk_alloc ?_ _)); refine blk_put (cs := #[.slice none 0 0, .slice none 0 0, .slice none 0 0]) ?_ 0 _ rfl; (with_reducible repeat (first | refine blk_drewN ?_ _ | refine blk_drew ?_ | refine blk_alloc ?_ _)); exact BK294.out) hb); have n7_ := Aside0.mk (below_step Bd_29 hb); clear HO286; clear HO289; clear HO292; clear BK294; clear HB; have HO286 := n0_; have HO289 := n1_; have HO292 := n2_; have HO297 := n3_; have HO300 := n4_; have HO303 := n5_; have BK294 := n6_; have HB := n7_; clear n0_ n1_ n2_ n3_ n4_ n5_ n6_ n7_; (try clear hb); (try clear hb2); (try clear hk); (try clear hi); (try clear ho0); (try clear ho1); (try clear ho2)) | ((with_reducible refine gate_dst (N := 5) rfl ?_); refine box_event ?hg (N := 5) ?hd (cs := #[.slice none 0 0, .slice none 0 0, .slice none 0 0]) (t := 39) ?hr ?_; (case hd => rfl); (case hg => rfl); (case hr => first | (go_simp; done) | (go_simp; rfl)); intro gb305 hg w13 hbox hb; have n0_ := Aside0.mk (Kd.R_below Bd_50 hb); have n1_ := Aside0.mk (Kd.R_below Bd_51 hb); have n2_ := Aside0.mk (Kd.R_below Bd_52 hb); have n3_ := Aside0.mk (Kd.R_below (by (with_reducible repeat (first | apply Kd.R_alloc | apply Kd.R_drewN | apply Kd.R_drew)); exact HO297.out) hb); have n4_ := Aside0.mk (Kd.R_below (by (with_reducible repeat (first | apply Kd.R_alloc | apply Kd.R_drewN | apply Kd.R_drew)); exact HO300.out) hb); have n5_ := Aside0.mk (Kd.R_below (by (with_reducible repeat (first | apply Kd.R_alloc | apply Kd.R_drewN | apply Kd.R_drew)); exact HO303.out) hb); have n6_ := Aside0.mk (blk_below (g := gb294) (o := .cells #[.slice Ao8 t284.length co8, .slice Ao10 t287.length co10, .slice Ao11 t290.length co11] 39 (0, 0)) Bd_5 hb); have n7_ := Aside0.mk (below_step Bd_29 hb); have n8_ := Aside0.mk (hbox); have n9_ := Aside0.mk ((by rw [hg]; exact (below_size Bd_29) : w.heap.size ≤ gb305)); have n10_ := Aside0.mk ((by rw [hg]; exact (below_size Bd_29) : w.heap.size ≤ gb305)); have n11_ := Aside0.mk ((by rw [hg]; exact Nat.ne_of_lt (blk_lt (g := gb294) (o := .cells #[.slice Ao8 t284.length co8, .slice Ao10 t287.length co10, .slice Ao11 t290.length co11] 39 (0, 0)) Bd_5) : gb294 ≠ gb305)); have n12_ := Aside0.mk ((by rw [hg]; exact Nat.ne_of_gt (blk_lt (g := gb294) (o := .cells #[.slice Ao8 t284.length co8, .slice Ao10 t287.length co10, .slice Ao11 t290.length co11] 39 (0, 0)) Bd_5) : gb305 ≠ gb294)); clear HO286; clear HO289; clear HO292; clear HO297; clear HO300; clear HO303; clear BK294; clear HB; have HO286 := n0_; have HO289 := n1_; have HO292 := n2_; have HO297 := n3_; have HO300 := n4_; have HO303 := n5_; have BK294 := n6_; have HB := n7_; have BK305 := n8_; have GW305 := n9_; have GE305 := n10_; have NB294_305 := n11_; have NB305_294 := n12_; clear n0_ n1_ n2_ n3_ n4_ n5_ n6_ n7_ n8_ n9_ n10_ n11_ n12_; clear hb hbox hg; obtain ⟨Ao14, co14, eo14⟩ := Kd.R_slice HO297.out; subst eo14; have hnb15 := NB305_294.out; have hnc15 := NB294_305.out; have hcz16_0 : w13.cell? ⟨gb305, 0, none⟩ = some (.slice none 0 0) := (blk_cell BK305.out 0).trans rfl; have hcz16_1 : w13.cell? ⟨gb305, 1, none⟩ = some (.slice none 0 0) := (blk_cell BK305.out 1).trans rfl; have hcz16_2 : w13.cell? ⟨gb305, 2, none⟩ = some (.slice none 0 0) := (blk_cell BK305.out 2).trans rfl; have hfz16_0 := blk_frozen BK305.out 0; have hfz16_1 := blk_frozen BK305.out 1; have hfz16_2 := blk_frozen BK305.out 2; obtain ⟨Ao17, co17, eo17⟩ := Kd.R_slice HO300.out; subst eo17; obtain ⟨Ao18, co18, eo18⟩ := Kd.R_slice HO303.out; subst eo18))
  (try simp only [Act.put, List.setIfInBounds_toArray, List.set_cons_zero, List.set_cons_succ])
  go_cut [32] (fun v32 wc => ∃ (kq : Nat) (x32_4 : Bool), v32 = .bool x32_4 ∧ Aside0 (laws_FnExactReadLayout.j0 kq a0 t293 x32_4 t284 t287 t290 t295 t298 t301 = some r) ∧ Aside0 (kq ≤ k) ∧ Aside0 (Kd.R (Kd.int .i64) 3 wc w.heap.size (fun k_ => some k_ ≠ ((.slice Ao10 t287.length co10) : Value).ownBlock ∧ some k_ ≠ ((.slice Ao11 t290.length co11) : Value).ownBlock ∧ some k_ ≠ ((.slice Ao14 t295.length co14) : Value).ownBlock ∧ some k_ ≠ ((.slice Ao17 t298.length co17) : Value).ownBlock ∧ some k_ ≠ ((.slice Ao18 t301.length co18) : Value).ownBlock) (.slice Ao8 t284.length co8) t284) ∧ Aside0 (Kd.R (Kd.int .i64) 3 wc w.heap.size (fun k_ => some k_ ≠ ((.slice Ao8 t284.length co8) : Value).ownBlock ∧ some k_ ≠ ((.slice Ao11 t290.length co11) : Value).ownBlock ∧ some k_ ≠ ((.slice Ao14 t295.length co14) : Value).ownBlock ∧ some k_ ≠ ((.slice Ao17 t298.length co17) : Value).ownBlock ∧ some k_ ≠ ((.slice Ao18 t301.length co18) : Value).ownBlock) (.slice Ao10 t287.length co10) t287) ∧ Aside0 (Kd.R (Kd.int .i64) 3 wc w.heap.size (fun k_ => some k_ ≠ ((.slice Ao8 t284.length co8) : Value).ownBlock ∧ some k_ ≠ ((.slice Ao10 t287.length co10) : Value).ownBlock ∧ some k_ ≠ ((.slice Ao14 t295.length co14) : Value).ownBlock ∧ some k_ ≠ ((.slice Ao17 t298.length co17) : Value).ownBlock ∧ some k_ ≠ ((.slice Ao18 t301.length co18) : Value).ownBlock) (.slice Ao11 t290.length co11) t290) ∧ Aside0 (Kd.R (Kd.int .i64) 3 wc w.heap.size (fun k_ => some k_ ≠ ((.slice Ao8 t284.length co8) : Value).ownBlock ∧ some k_ ≠ ((.slice Ao10 t287.length co10) : Value).ownBlock ∧ some k_ ≠ ((.slice Ao11 t290.length co11) : Value).ownBlock ∧ some k_ ≠ ((.slice Ao17 t298.length co17) : Value).ownBlock ∧ some k_ ≠ ((.slice Ao18 t301.length co18) : Value).ownBlock) (.slice Ao14 t295.length co14) t295) ∧ Aside0 (Kd.R (Kd.int .i64) 3 wc w.heap.size (fun k_ => some k_ ≠ ((.slice Ao8 t284.length co8) : Value).ownBlock ∧ some k_ ≠ ((.slice Ao10 t287.length co10) : Value).ownBlock ∧ some k_ ≠ ((.slice Ao11 t290.length co11) : Value).ownBlock ∧ some k_ ≠ ((.slice Ao14 t295.length co14) : Value).ownBlock ∧ some k_ ≠ ((.slice Ao18 t301.length co18) : Value).ownBlock) (.slice Ao17 t298.length co17) t298) ∧ Aside0 (Kd.R (Kd.int .i64) 3 wc w.heap.size (fun k_ => some k_ ≠ ((.slice Ao8 t284.length co8) : Value).ownBlock ∧ some k_ ≠ ((.slice Ao10 t287.length co10) : Value).ownBlock ∧ some k_ ≠ ((.slice Ao11 t290.length co11) : Value).ownBlock ∧ some k_ ≠ ((.slice Ao14 t295.length co14) : Value).ownBlock ∧ some k_ ≠ ((.slice Ao17 t298.length co17) : Value).ownBlock) (.slice Ao18 t301.length co18) t301) ∧ Aside0 (wc.heap[gb294]? = some (.cells #[(.slice Ao8 t284.length co8), (.slice Ao10 t287.length co10), (.slice Ao11 t290.length co11)] 39 (0, 0))) ∧ Aside0 (wc.heap[gb305]? = some (.cells #[(.slice Ao14 t295.length co14), (.slice Ao17 t298.length co17), (.slice Ao18 t301.length co18)] 39 (0, 0))) ∧ Aside0 (Below w.heap.size w wc))
  case first =>
   have H := HC5.out
   clear HC5
   replace H := Option.bind_eq_some_iff.mp H
   obtain ⟨t306, A190, H⟩ := H
   replace H : (if t306 = true then (laws_FnExactReadLayout.j0 k a0 t293 (t304 != t293) t284 t287 t290 t295 t298 t301) else (laws_FnExactReadLayout.j0 k a0 t293 true t284 t287 t290 t295 t298 t301)) = some r := H
   have A19 := Aside0.mk A190
   clear A190
   by_cases c20 : t306 = true
   ·subst c20
    have H1 : (laws_FnExactReadLayout.j0 k a0 t293 (t304 != t293) t284 t287 t290 t295 t298 t301) = some r := by rw [if_pos rfl] at H; exact H
    clear H
    have H := H1
    clear H1
    have H' := Aside0.mk H
    clear H
    have hnb21 := NB305_294.out
    have hnc21 := NB294_305.out
    have hcz22_0 : w13.cell? ⟨gb305, 0, none⟩ = some (.slice none 0 0) := (blk_cell BK305.out 0).trans rfl
    have hcz22_1 : w13.cell? ⟨gb305, 1, none⟩ = some (.slice none 0 0) := (blk_cell BK305.out 1).trans rfl
    have hcz22_2 : w13.cell? ⟨gb305, 2, none⟩ = some (.slice none 0 0) := (blk_cell BK305.out 2).trans rfl
    have hfz22_0 := blk_frozen BK305.out 0
    have hfz22_1 := blk_frozen BK305.out 1
    have hfz22_2 := blk_frozen BK305.out 2
    have hcz23_0 : w13.cell? ⟨gb294, 0, none⟩ = some (.slice Ao8 t284.length co8) := (blk_cell BK294.out 0).trans rfl
    have hcz23_1 : w13.cell? ⟨gb294, 1, none⟩ = some (.slice Ao10 t287.length co10) := (blk_cell BK294.out 1).trans rfl
    have hcz23_2 : w13.cell? ⟨gb294, 2, none⟩ = some (.slice Ao11 t290.length co11) := (blk_cell BK294.out 2).trans rfl
    have hfz23_0 := blk_frozen BK294.out 0
    have hfz23_1 := blk_frozen BK294.out 1
    have hfz23_2 := blk_frozen BK294.out 2
    go_wp2_with (first | ((with_reducible refine gate_callee (f := 44) rfl ?_); refine goesL_ (some 26) rfl rfl Try.func44 (by kernel_rfl) rfl #[.agg #[.slice Ao14 t295.length co14, .slice Ao17 t298.length co17, .slice Ao18 t301.length co18], .agg #[.slice Ao8 t284.length co8, .slice Ao10 t287.length co10, .slice Ao11 t290.length co11]] rfl Bd_0 ?_; (with_reducible refine (laws_eqLayout.calls k _ _ t295 _ _ t298 _ _ t301 _ _ t284 _ _ t287 _ _ t290 true _ ?side1 ?side2 ?side3 ?side4 ?side5 ?side6 ?side7 ?side8 ?side9 ?side10 ?side11 ?side12 A19.out).mono ?_); (case side1 => refine (Kd.R_reads' (e := 3) (base := w.heap.size) (ok := fun k_ => ((((some k_ ≠ (.slice Ao17 t298.length co17 : Value).ownBlock ∧ some k_ ≠ (.slice Ao18 t301.length co18 : Value).ownBlock) ∧ some k_ ≠ (.slice Ao8 t284.length co8 : Value).ownBlock) ∧ some k_ ≠ (.slice Ao10 t287.length co10 : Value).ownBlock) ∧ some k_ ≠ (.slice Ao11 t290.length co11 : Value).ownBlock)) (n := t295.length) (c := co14) ?_).2.2; exact Bd_11); (case side2 => exact (Kd.R_reads' HO297.out).2.1); (case side3 => refine (Kd.R_reads' (e := 3) (base := w.heap.size) (ok := fun k_ => ((((some k_ ≠ (.slice Ao14 t295.length co14 : Value).ownBlock ∧ some k_ ≠ (.slice Ao18 t301.length co18 : Value).ownBlock) ∧ some k_ ≠ (.slice Ao8 t284.length co8 : Value).ownBlock) ∧ some k_ ≠ (.slice Ao10 t287.length co10 : Value).ownBlock) ∧ some k_ ≠ (.slice Ao11 t290.length co11 : Value).ownBlock)) (n := t298.length) (c := co17) ?_).2.2; exact Bd_12); (case side4 => exact (Kd.R_reads' HO300.out).2.1); (case side5 => refine (Kd.R_reads' (e := 3) (base := w.heap.size) (ok := fun k_ => ((((some k_ ≠ (.slice Ao14 t295.length co14 : Value).ownBlock ∧ some k_ ≠ (.slice Ao17 t298.length co17 : Value).ownBlock) ∧ some k_ ≠ (.slice Ao8 t284.length co8 : Value).ownBlock) ∧ some k_ ≠ (.slice Ao10 t287.length co10 : Value).ownBlock) ∧ some k_ ≠ (.slice Ao11 t290.length co11 : Value).ownBlock)) (n := t301.length) (c := co18) ?_).2.2; exact Bd_13); (case side6 => exact (Kd.R_reads' HO303.out).2.1); (case side7 => refine (Kd.R_reads' (e := 3) (base := w.heap.size) (ok := fun k_ => ((((some k_ ≠ (.slice Ao10 t287.length co10 : Value).ownBlock ∧ some k_ ≠ (.slice Ao11 t290.length co11 : Value).ownBlock) ∧ some k_ ≠ (.slice Ao14 t295.length co14 : Value).ownBlock) ∧ some k_ ≠ (.slice Ao17 t298.length co17 : Value).ownBlock) ∧ some k_ ≠ (.slice Ao18 t301.length co18 : Value).ownBlock)) (n := t284.length) (c := co8) ?_).2.2; exact Bd_14); (case side8 => exact (Kd.R_reads' HO286.out).2.1); (case side9 => refine (Kd.R_reads' (e := 3) (base := w.heap.size) (ok := fun k_ => ((((some k_ ≠ (.slice Ao8 t284.length co8 : Value).ownBlock ∧ some k_ ≠ (.slice Ao11 t290.length co11 : Value).ownBlock) ∧ some k_ ≠ (.slice Ao14 t295.length co14 : Value).ownBlock) ∧ some k_ ≠ (.slice Ao17 t298.length co17 : Value).ownBlock) ∧ some k_ ≠ (.slice Ao18 t301.length co18 : Value).ownBlock)) (n := t287.length) (c := co10) ?_).2.2; exact Bd_15); (case side10 => exact (Kd.R_reads' HO289.out).2.1); (case side11 => refine (Kd.R_reads' (e := 3) (base := w.heap.size) (ok := fun k_ => ((((some k_ ≠ (.slice Ao8 t284.length co8 : Value).ownBlock ∧ some k_ ≠ (.slice Ao10 t287.length co10 : Value).ownBlock) ∧ some k_ ≠ (.slice Ao14 t295.length co14 : Value).ownBlock) ∧ some k_ ≠ (.slice Ao17 t298.length co17 : Value).ownBlock) ∧ some k_ ≠ (.slice Ao18 t301.length co18 : Value).ownBlock)) (n := t290.length) (c := co11) ?_).2.2; exact Bd_16); (case side12 => exact (Kd.R_reads' HO292.out).2.1); rintro e w24 ⟨rfl, hb⟩; refine ⟨_, rfl, ?_⟩; have n0_ := Aside0.mk (Kd.R_below Bd_14 hb); have n1_ := Aside0.mk (Kd.R_below Bd_15 hb); have n2_ := Aside0.mk (Kd.R_below Bd_16 hb); have n3_ := Aside0.mk (Kd.R_below Bd_11 hb); have n4_ := Aside0.mk (Kd.R_below Bd_12 hb); have n5_ := Aside0.mk (Kd.R_below Bd_13 hb); have n6_ := Aside0.mk (blk_below (g := gb294) (o := .cells #[.slice Ao8 t284.length co8, .slice Ao10 t287.length co10, .slice Ao11 t290.length co11] 39 (0, 0)) Bd_37 hb); have n7_ := Aside0.mk (blk_below (g := gb305) (o := .cells #[.slice Ao14 t295.length co14, .slice Ao17 t298.length co17, .slice Ao18 t301.length co18] 39 (0, 0)) Bd_32 hb); have n8_ := Aside0.mk (below_step Bd_2 hb); clear HO286; clear HO289; clear HO292; clear HO297; clear HO300; clear HO303; clear BK294; clear BK305; clear HB; have HO286 := n0_; have HO289 := n1_; have HO292 := n2_; have HO297 := n3_; have HO300 := n4_; have HO303 := n5_; have BK294 := n6_; have BK305 := n7_; have HB := n8_; clear n0_ n1_ n2_ n3_ n4_ n5_ n6_ n7_ n8_; (try clear hb); (try clear hb2); (try clear hk); (try clear hi)))
    go_meet
    case rel => exact ⟨_, ((t304 != t293)), Bd_36, H', ⟨by first | omega | exact Nat.le_refl _⟩, ⟨by (with_reducible repeat (first | apply Kd.R_alloc | apply Kd.R_drewN | apply Kd.R_drew)); exact Kd.R_mono HO286.out (fun _ hk => ⟨hk.1.1.1.1, ⟨hk.1.1.1.2, ⟨hk.1.1.2, ⟨hk.1.2, hk.2⟩⟩⟩⟩)⟩, ⟨by (with_reducible repeat (first | apply Kd.R_alloc | apply Kd.R_drewN | apply Kd.R_drew)); exact Kd.R_mono HO289.out (fun _ hk => ⟨hk.1.1.1.1, ⟨hk.1.1.1.2, ⟨hk.1.1.2, ⟨hk.1.2, hk.2⟩⟩⟩⟩)⟩, ⟨by (with_reducible repeat (first | apply Kd.R_alloc | apply Kd.R_drewN | apply Kd.R_drew)); exact Kd.R_mono HO292.out (fun _ hk => ⟨hk.1.1.1.1, ⟨hk.1.1.1.2, ⟨hk.1.1.2, ⟨hk.1.2, hk.2⟩⟩⟩⟩)⟩, ⟨by (with_reducible repeat (first | apply Kd.R_alloc | apply Kd.R_drewN | apply Kd.R_drew)); exact Kd.R_mono HO297.out (fun _ hk => ⟨hk.1.1.2, ⟨hk.1.2, ⟨hk.2, ⟨hk.1.1.1.1, hk.1.1.1.2⟩⟩⟩⟩)⟩, ⟨by (with_reducible repeat (first | apply Kd.R_alloc | apply Kd.R_drewN | apply Kd.R_drew)); exact Kd.R_mono HO300.out (fun _ hk => ⟨hk.1.1.2, ⟨hk.1.2, ⟨hk.2, ⟨hk.1.1.1.1, hk.1.1.1.2⟩⟩⟩⟩)⟩, ⟨by (with_reducible repeat (first | apply Kd.R_alloc | apply Kd.R_drewN | apply Kd.R_drew)); exact Kd.R_mono HO303.out (fun _ hk => ⟨hk.1.1.2, ⟨hk.1.2, ⟨hk.2, ⟨hk.1.1.1.1, hk.1.1.1.2⟩⟩⟩⟩)⟩, ⟨by (with_reducible repeat (first | refine blk_drewN ?_ _ | refine blk_drew ?_ | refine blk_alloc ?_ _)); exact BK294.out⟩, ⟨by (with_reducible repeat (first | refine blk_drewN ?_ _ | refine blk_drew ?_ | refine blk_alloc ?_ _)); exact BK305.out⟩, ⟨by repeat (first | (with_reducible first | exact HB.out | apply below_alloc | apply pw_below_drewN | apply below_drew1 | refine below_set ?_ GE294.out | refine below_set ?_ GE305.out) | exact HB.out)⟩⟩
   ·replace c20 := Bool.eq_false_iff.mpr c20
    subst c20
    have H1 : (laws_FnExactReadLayout.j0 k a0 t293 true t284 t287 t290 t295 t298 t301) = some r := by rw [if_neg (show ¬ (false = true) by decide)] at H; exact H
    clear H
    have H := H1
    clear H1
    have H' := Aside0.mk H
    clear H
    have hnb25 := NB305_294.out
    have hnc25 := NB294_305.out
    have hcz26_0 : w13.cell? ⟨gb305, 0, none⟩ = some (.slice none 0 0) := (blk_cell BK305.out 0).trans rfl
    have hcz26_1 : w13.cell? ⟨gb305, 1, none⟩ = some (.slice none 0 0) := (blk_cell BK305.out 1).trans rfl
    have hcz26_2 : w13.cell? ⟨gb305, 2, none⟩ = some (.slice none 0 0) := (blk_cell BK305.out 2).trans rfl
    have hfz26_0 := blk_frozen BK305.out 0
    have hfz26_1 := blk_frozen BK305.out 1
    have hfz26_2 := blk_frozen BK305.out 2
    have hcz27_0 : w13.cell? ⟨gb294, 0, none⟩ = some (.slice Ao8 t284.length co8) := (blk_cell BK294.out 0).trans rfl
    have hcz27_1 : w13.cell? ⟨gb294, 1, none⟩ = some (.slice Ao10 t287.length co10) := (blk_cell BK294.out 1).trans rfl
    have hcz27_2 : w13.cell? ⟨gb294, 2, none⟩ = some (.slice Ao11 t290.length co11) := (blk_cell BK294.out 2).trans rfl
    have hfz27_0 := blk_frozen BK294.out 0
    have hfz27_1 := blk_frozen BK294.out 1
    have hfz27_2 := blk_frozen BK294.out 2
    go_wp2_with (first | ((with_reducible refine gate_callee (f := 44) rfl ?_); refine goesL_ (some 26) rfl rfl Try.func44 (by kernel_rfl) rfl #[.agg #[.slice Ao14 t295.length co14, .slice Ao17 t298.length co17, .slice Ao18 t301.length co18], .agg #[.slice Ao8 t284.length co8, .slice Ao10 t287.length co10, .slice Ao11 t290.length co11]] rfl Bd_0 ?_; (with_reducible refine (laws_eqLayout.calls k _ _ t295 _ _ t298 _ _ t301 _ _ t284 _ _ t287 _ _ t290 false _ ?side1 ?side2 ?side3 ?side4 ?side5 ?side6 ?side7 ?side8 ?side9 ?side10 ?side11 ?side12 A19.out).mono ?_); (case side1 => refine (Kd.R_reads' (e := 3) (base := w.heap.size) (ok := fun k_ => ((((some k_ ≠ (.slice Ao17 t298.length co17 : Value).ownBlock ∧ some k_ ≠ (.slice Ao18 t301.length co18 : Value).ownBlock) ∧ some k_ ≠ (.slice Ao8 t284.length co8 : Value).ownBlock) ∧ some k_ ≠ (.slice Ao10 t287.length co10 : Value).ownBlock) ∧ some k_ ≠ (.slice Ao11 t290.length co11 : Value).ownBlock)) (n := t295.length) (c := co14) ?_).2.2; exact Bd_11); (case side2 => exact (Kd.R_reads' HO297.out).2.1); (case side3 => refine (Kd.R_reads' (e := 3) (base := w.heap.size) (ok := fun k_ => ((((some k_ ≠ (.slice Ao14 t295.length co14 : Value).ownBlock ∧ some k_ ≠ (.slice Ao18 t301.length co18 : Value).ownBlock) ∧ some k_ ≠ (.slice Ao8 t284.length co8 : Value).ownBlock) ∧ some k_ ≠ (.slice Ao10 t287.length co10 : Value).ownBlock) ∧ some k_ ≠ (.slice Ao11 t290.length co11 : Value).ownBlock)) (n := t298.length) (c := co17) ?_).2.2; exact Bd_12); (case side4 => exact (Kd.R_reads' HO300.out).2.1); (case side5 => refine (Kd.R_reads' (e := 3) (base := w.heap.size) (ok := fun k_ => ((((some k_ ≠ (.slice Ao14 t295.length co14 : Value).ownBlock ∧ some k_ ≠ (.slice Ao17 t298.length co17 : Value).ownBlock) ∧ some k_ ≠ (.slice Ao8 t284.length co8 : Value).ownBlock) ∧ some k_ ≠ (.slice Ao10 t287.length co10 : Value).ownBlock) ∧ some k_ ≠ (.slice Ao11 t290.length co11 : Value).ownBlock)) (n := t301.length) (c := co18) ?_).2.2; exact Bd_13); (case side6 => exact (Kd.R_reads' HO303.out).2.1); (case side7 => refine (Kd.R_reads' (e := 3) (base := w.heap.size) (ok := fun k_ => ((((some k_ ≠ (.slice Ao10 t287.length co10 : Value).ownBlock ∧ some k_ ≠ (.slice Ao11 t290.length co11 : Value).ownBlock) ∧ some k_ ≠ (.slice Ao14 t295.length co14 : Value).ownBlock) ∧ some k_ ≠ (.slice Ao17 t298.length co17 : Value).ownBlock) ∧ some k_ ≠ (.slice Ao18 t301.length co18 : Value).ownBlock)) (n := t284.length) (c := co8) ?_).2.2; exact Bd_14); (case side8 => exact (Kd.R_reads' HO286.out).2.1); (case side9 => refine (Kd.R_reads' (e := 3) (base := w.heap.size) (ok := fun k_ => ((((some k_ ≠ (.slice Ao8 t284.length co8 : Value).ownBlock ∧ some k_ ≠ (.slice Ao11 t290.length co11 : Value).ownBlock) ∧ some k_ ≠ (.slice Ao14 t295.length co14 : Value).ownBlock) ∧ some k_ ≠ (.slice Ao17 t298.length co17 : Value).ownBlock) ∧ some k_ ≠ (.slice Ao18 t301.length co18 : Value).ownBlock)) (n := t287.length) (c := co10) ?_).2.2; exact Bd_15); (case side10 => exact (Kd.R_reads' HO289.out).2.1); (case side11 => refine (Kd.R_reads' (e := 3) (base := w.heap.size) (ok := fun k_ => ((((some k_ ≠ (.slice Ao8 t284.length co8 : Value).ownBlock ∧ some k_ ≠ (.slice Ao10 t287.length co10 : Value).ownBlock) ∧ some k_ ≠ (.slice Ao14 t295.length co14 : Value).ownBlock) ∧ some k_ ≠ (.slice Ao17 t298.length co17 : Value).ownBlock) ∧ some k_ ≠ (.slice Ao18 t301.length co18 : Value).ownBlock)) (n := t290.length) (c := co11) ?_).2.2; exact Bd_16); (case side12 => exact (Kd.R_reads' HO292.out).2.1); rintro e w28 ⟨rfl, hb⟩; refine ⟨_, rfl, ?_⟩; have n0_ := Aside0.mk (Kd.R_below Bd_14 hb); have n1_ := Aside0.mk (Kd.R_below Bd_15 hb); have n2_ := Aside0.mk (Kd.R_below Bd_16 hb); have n3_ := Aside0.mk (Kd.R_below Bd_11 hb); have n4_ := Aside0.mk (Kd.R_below Bd_12 hb); have n5_ := Aside0.mk (Kd.R_below Bd_13 hb); have n6_ := Aside0.mk (blk_below (g := gb294) (o := .cells #[.slice Ao8 t284.length co8, .slice Ao10 t287.length co10, .slice Ao11 t290.length co11] 39 (0, 0)) Bd_37 hb); have n7_ := Aside0.mk (blk_below (g := gb305) (o := .cells #[.slice Ao14 t295.length co14, .slice Ao17 t298.length co17, .slice Ao18 t301.length co18] 39 (0, 0)) Bd_32 hb); have n8_ := Aside0.mk (below_step Bd_2 hb); clear HO286; clear HO289; clear HO292; clear HO297; clear HO300; clear HO303; clear BK294; clear BK305; clear HB; have HO286 := n0_; have HO289 := n1_; have HO292 := n2_; have HO297 := n3_; have HO300 := n4_; have HO303 := n5_; have BK294 := n6_; have BK305 := n7_; have HB := n8_; clear n0_ n1_ n2_ n3_ n4_ n5_ n6_ n7_ n8_; (try clear hb); (try clear hb2); (try clear hk); (try clear hi)))
    go_meet
    case rel => exact ⟨_, (true), Bd_36, H', ⟨by first | omega | exact Nat.le_refl _⟩, ⟨by (with_reducible repeat (first | apply Kd.R_alloc | apply Kd.R_drewN | apply Kd.R_drew)); exact Kd.R_mono HO286.out (fun _ hk => ⟨hk.1.1.1.1, ⟨hk.1.1.1.2, ⟨hk.1.1.2, ⟨hk.1.2, hk.2⟩⟩⟩⟩)⟩, ⟨by (with_reducible repeat (first | apply Kd.R_alloc | apply Kd.R_drewN | apply Kd.R_drew)); exact Kd.R_mono HO289.out (fun _ hk => ⟨hk.1.1.1.1, ⟨hk.1.1.1.2, ⟨hk.1.1.2, ⟨hk.1.2, hk.2⟩⟩⟩⟩)⟩, ⟨by (with_reducible repeat (first | apply Kd.R_alloc | apply Kd.R_drewN | apply Kd.R_drew)); exact Kd.R_mono HO292.out (fun _ hk => ⟨hk.1.1.1.1, ⟨hk.1.1.1.2, ⟨hk.1.1.2, ⟨hk.1.2, hk.2⟩⟩⟩⟩)⟩, ⟨by (with_reducible repeat (first | apply Kd.R_alloc | apply Kd.R_drewN | apply Kd.R_drew)); exact Kd.R_mono HO297.out (fun _ hk => ⟨hk.1.1.2, ⟨hk.1.2, ⟨hk.2, ⟨hk.1.1.1.1, hk.1.1.1.2⟩⟩⟩⟩)⟩, ⟨by (with_reducible repeat (first | apply Kd.R_alloc | apply Kd.R_drewN | apply Kd.R_drew)); exact Kd.R_mono HO300.out (fun _ hk => ⟨hk.1.1.2, ⟨hk.1.2, ⟨hk.2, ⟨hk.1.1.1.1, hk.1.1.1.2⟩⟩⟩⟩)⟩, ⟨by (with_reducible repeat (first | apply Kd.R_alloc | apply Kd.R_drewN | apply Kd.R_drew)); exact Kd.R_mono HO303.out (fun _ hk => ⟨hk.1.1.2, ⟨hk.1.2, ⟨hk.2, ⟨hk.1.1.1.1, hk.1.1.1.2⟩⟩⟩⟩)⟩, ⟨by (with_reducible repeat (first | refine blk_drewN ?_ _ | refine blk_drew ?_ | refine blk_alloc ?_ _)); exact BK294.out⟩, ⟨by (with_reducible repeat (first | refine blk_drewN ?_ _ | refine blk_drew ?_ | refine blk_alloc ?_ _)); exact BK305.out⟩, ⟨by repeat (first | (with_reducible first | exact HB.out | apply below_alloc | apply pw_below_drewN | apply below_drew1 | refine below_set ?_ GE294.out | refine below_set ?_ GE305.out) | exact HB.out)⟩⟩
  case rest =>
   clear HC5
   try clear c1; try clear c2; try clear c2b0; try clear c2b1; try clear p2; try clear c4; try clear c8; try clear c15; try clear c20; try clear c21; try clear c24; try clear c25; try clear hcz16_0; try clear hcz16_1; try clear hcz16_2; try clear hcz22_0; try clear hcz22_1; try clear hcz22_2; try clear hcz23_0; try clear hcz23_1; try clear hcz23_2; try clear hcz26_0; try clear hcz26_1; try clear hcz26_2; try clear hcz27_0; try clear hcz27_1; try clear hcz27_2; try clear hcz9_0; try clear hcz9_1; try clear hcz9_2; try clear hfz16_0; try clear hfz16_1; try clear hfz16_2; try clear hfz22_0; try clear hfz22_1; try clear hfz22_2; try clear hfz23_0; try clear hfz23_1; try clear hfz23_2; try clear hfz26_0; try clear hfz26_1; try clear hfz26_2; try clear hfz27_0; try clear hfz27_1; try clear hfz27_2; try clear hfz9_0; try clear hfz9_1; try clear hfz9_2
   obtain ⟨kq, x32_4, rfl, HA, HJ4, HO_295000, HO_295001, HO_295002, HO_306000, HO_306001, HO_306002, BK294, BK305, HB⟩ := hcut
   cases kq with
   | zero => exact absurd HA.out (by simp [laws_FnExactReadLayout.j0])
   | succ kj4 =>
    have H := HA.out
    clear HA
    simp only [laws_FnExactReadLayout.j0] at H
    by_cases c29 : x32_4 = true
    ·subst c29
     have H1 : (some false) = some r := by rw [if_pos rfl] at H; exact H
     clear H
     have H := H1
     clear H1
     obtain rfl := Option.some.inj H
     go_wp2
     go_ret
     exact ⟨by first | rfl | (simp [errW_none, errW_some] <;> rfl) | (simp [*, errW_none, errW_some] <;> rfl), by repeat (first | (with_reducible first | exact HB.out | apply below_alloc | apply pw_below_drewN | apply below_drew1 | refine below_set ?_ GE294.out | refine below_set ?_ GE305.out) | exact HB.out)⟩
    ·replace c29 := Bool.eq_false_iff.mpr c29
     subst c29
     have H1 : ((laws_markLayout.f kj4 t295 t298 t301 1).bind fun bt307 => ((laws_heldLayout.f kj4 bt307.2.1 bt307.2.2.1 bt307.2.2.2 1).bind fun t311 => (if t311 < 0 then (some false) else (if t311 = bt307.1 then ((impl_ReadLayout.f kj4 a0).bind fun bt312 => ((laws_eqLayout.f kj4 bt312.1 bt312.2.1 bt312.2.2.1 t284 t287 t290).bind fun t323 => (if t323 = true then (laws_FnExactReadLayout.j1 kj4 bt307.1 (bt312.2.2.2 != t293) bt307.2.1 bt307.2.2.1 bt307.2.2.2) else (laws_FnExactReadLayout.j1 kj4 bt307.1 true bt307.2.1 bt307.2.2.1 bt307.2.2.2)))) else (some false))))) = some r := by rw [if_neg (show ¬ (false = true) by decide)] at H; exact H
     clear H
     have H := H1
     clear H1
     replace H := Option.bind_eq_some_iff.mp H
     obtain ⟨⟨t307, t308, t309, t310⟩, A300, H⟩ := H
     replace H : ((laws_heldLayout.f kj4 t308 t309 t310 1).bind fun t311 => (if t311 < 0 then (some false) else (if t311 = t307 then ((impl_ReadLayout.f kj4 a0).bind fun bt312 => ((laws_eqLayout.f kj4 bt312.1 bt312.2.1 bt312.2.2.1 t284 t287 t290).bind fun t323 => (if t323 = true then (laws_FnExactReadLayout.j1 kj4 t307 (bt312.2.2.2 != t293) t308 t309 t310) else (laws_FnExactReadLayout.j1 kj4 t307 true t308 t309 t310)))) else (some false)))) = some r := H
     have A30 := Aside0.mk A300
     clear A300
     replace H := Option.bind_eq_some_iff.mp H
     obtain ⟨t311, A310, H⟩ := H
     replace H : (if t311 < 0 then (some false) else (if t311 = t307 then ((impl_ReadLayout.f kj4 a0).bind fun bt312 => ((laws_eqLayout.f kj4 bt312.1 bt312.2.1 bt312.2.2.1 t284 t287 t290).bind fun t323 => (if t323 = true then (laws_FnExactReadLayout.j1 kj4 t307 (bt312.2.2.2 != t293) t308 t309 t310) else (laws_FnExactReadLayout.j1 kj4 t307 true t308 t309 t310)))) else (some false))) = some r := H
     have A31 := Aside0.mk A310
     clear A310
     by_cases c32 : t311 < 0
     ·rw [if_pos c32] at H
      have c32b0 : decide (t311 < 0) = true := decide_eq_true c32
      clear c32
      obtain rfl := Option.some.inj H
      have hnb33 := NB305_294.out
      have hnc33 := NB294_305.out
      have hcz34_0 : wc.cell? ⟨gb305, 0, none⟩ = some (.slice Ao14 t295.length co14) := (blk_cell BK305.out 0).trans rfl
      have hcz34_1 : wc.cell? ⟨gb305, 1, none⟩ = some (.slice Ao17 t298.length co17) := (blk_cell BK305.out 1).trans rfl
      have hcz34_2 : wc.cell? ⟨gb305, 2, none⟩ = some (.slice Ao18 t301.length co18) := (blk_cell BK305.out 2).trans rfl
      have hfz34_0 := blk_frozen BK305.out 0
      have hfz34_1 := blk_frozen BK305.out 1
      have hfz34_2 := blk_frozen BK305.out 2
      go_wp2_with (first | ((with_reducible refine gate_callee (f := 45) rfl ?_); refine goesL_ (some 35) rfl rfl Try.func45 (by kernel_rfl) rfl #[.agg #[.slice Ao14 t295.length co14, .slice Ao17 t298.length co17, .slice Ao18 t301.length co18], .int .i64 1] rfl Bd_0 ?_; (with_reducible refine (laws_markLayout.calls kj4 (fun k_ => some k_ = (.slice Ao14 t295.length co14 : Value).ownBlock) (.slice Ao14 t295.length co14) t295 (fun k_ => some k_ = (.slice Ao17 t298.length co17 : Value).ownBlock) (.slice Ao17 t298.length co17) t298 (fun k_ => some k_ = (.slice Ao18 t301.length co18 : Value).ownBlock) (.slice Ao18 t301.length co18) t301 1 t307 t308 t309 t310 w _ ?side1 ?side2 ?side3 ?side4 ?side5 ?side6 ?side7 ?side8 ?side9 ?side10 A30.out).mono ?_); (case side1 => repeat (first | (with_reducible first | exact HB.out | apply below_alloc | apply pw_below_drewN | apply below_drew1 | refine below_set ?_ GE294.out | refine below_set ?_ GE305.out) | exact HB.out)); (case side2 => exact Kd.R_tight rfl HO_306000.out); (case side3 => exact fun k_ e_ => (HO_306000.out.1 k_ e_.symm).2.2.2.1); (case side4 => exact fun k_ e_ => (HO_306000.out.1 k_ e_.symm).2.2.2.2); (case side5 => exact Kd.R_tight rfl HO_306001.out); (case side6 => exact fun k_ e_ => (HO_306001.out.1 k_ e_.symm).2.2.2.1); (case side7 => exact fun k_ e_ => (HO_306001.out.1 k_ e_.symm).2.2.2.2); (case side8 => exact Kd.R_tight rfl HO_306002.out); (case side9 => exact fun k_ e_ => (HO_306002.out.1 k_ e_.symm).2.2.2.1); (case side10 => exact fun k_ e_ => (HO_306002.out.1 k_ e_.symm).2.2.2.2); rintro e w35 ⟨rfl, hy0, hy1, hy2, hb, hkp⟩; refine ⟨_, rfl, ?_⟩; have n0_ := Aside0.mk (Kd.R_mono (ok' := fun k_ => some k_ ≠ (.slice Ao10 t287.length co10 : Value).ownBlock ∧ some k_ ≠ (.slice Ao11 t290.length co11 : Value).ownBlock ∧ some k_ ≠ (.slice Ao14 t295.length co14 : Value).ownBlock ∧ some k_ ≠ (.slice Ao17 t298.length co17 : Value).ownBlock ∧ some k_ ≠ (.slice Ao18 t301.length co18 : Value).ownBlock) (Kd.R_keptB (HO_295000.out) hkp (fun k_ hk_ hs_ => Or.elim hs_ (fun e_ => (hk_.2.2.1) e_) (fun e_ => Or.elim e_ (fun e_ => (hk_.2.2.2.1) e_) (fun e_ => (hk_.2.2.2.2) e_)))) (fun k_ hk_ => ⟨hk_.1.1, hk_.1.2.1, hk_.1.2.2.1, hk_.1.2.2.2.1, hk_.1.2.2.2.2⟩)); have n1_ := Aside0.mk (Kd.R_mono (ok' := fun k_ => some k_ ≠ (.slice Ao8 t284.length co8 : Value).ownBlock ∧ some k_ ≠ (.slice Ao11 t290.length co11 : Value).ownBlock ∧ some k_ ≠ (.slice Ao14 t295.length co14 : Value).ownBlock ∧ some k_ ≠ (.slice Ao17 t298.length co17 : Value).ownBlock ∧ some k_ ≠ (.slice Ao18 t301.length co18 : Value).ownBlock) (Kd.R_keptB (HO_295001.out) hkp (fun k_ hk_ hs_ => Or.elim hs_ (fun e_ => (hk_.2.2.1) e_) (fun e_ => Or.elim e_ (fun e_ => (hk_.2.2.2.1) e_) (fun e_ => (hk_.2.2.2.2) e_)))) (fun k_ hk_ => ⟨hk_.1.1, hk_.1.2.1, hk_.1.2.2.1, hk_.1.2.2.2.1, hk_.1.2.2.2.2⟩)); have n2_ := Aside0.mk (Kd.R_mono (ok' := fun k_ => some k_ ≠ (.slice Ao8 t284.length co8 : Value).ownBlock ∧ some k_ ≠ (.slice Ao10 t287.length co10 : Value).ownBlock ∧ some k_ ≠ (.slice Ao14 t295.length co14 : Value).ownBlock ∧ some k_ ≠ (.slice Ao17 t298.length co17 : Value).ownBlock ∧ some k_ ≠ (.slice Ao18 t301.length co18 : Value).ownBlock) (Kd.R_keptB (HO_295002.out) hkp (fun k_ hk_ hs_ => Or.elim hs_ (fun e_ => (hk_.2.2.1) e_) (fun e_ => Or.elim e_ (fun e_ => (hk_.2.2.2.1) e_) (fun e_ => (hk_.2.2.2.2) e_)))) (fun k_ hk_ => ⟨hk_.1.1, hk_.1.2.1, hk_.1.2.2.1, hk_.1.2.2.2.1, hk_.1.2.2.2.2⟩)); have n3_ := Aside0.mk (Kd.R_reok rfl hy0 (fun k_ e_ => HO_306000.out.1 k_ e_)); have n4_ := Aside0.mk (Kd.R_reok rfl hy1 (fun k_ e_ => HO_306001.out.1 k_ e_)); have n5_ := Aside0.mk (Kd.R_reok rfl hy2 (fun k_ e_ => HO_306002.out.1 k_ e_)); have n6_ := Aside0.mk (blk_kept Bd_5 hkp (fun hs_ => Or.elim hs_ (fun e_ => (fun e_ => (Kd.R_ne HO_306000.out BK294.out (by decide)) e_) e_) (fun e_ => Or.elim e_ (fun e_ => (fun e_ => (Kd.R_ne HO_306001.out BK294.out (by decide)) e_) e_) (fun e_ => (fun e_ => (Kd.R_ne HO_306002.out BK294.out (by decide)) e_) e_)))); have n7_ := Aside0.mk (blk_kept Bd_6 hkp (fun hs_ => Or.elim hs_ (fun e_ => (fun e_ => (Kd.R_ne HO_306000.out BK305.out (by decide)) e_) e_) (fun e_ => Or.elim e_ (fun e_ => (fun e_ => (Kd.R_ne HO_306001.out BK305.out (by decide)) e_) e_) (fun e_ => (fun e_ => (Kd.R_ne HO_306002.out BK305.out (by decide)) e_) e_)))); have n8_ := Aside0.mk (hb); clear HO_295000; clear HO_295001; clear HO_295002; clear HO_306000; clear HO_306001; clear HO_306002; clear BK294; clear BK305; clear HB; have HO_295000 := n0_; have HO_295001 := n1_; have HO_295002 := n2_; have HO_306000 := n3_; have HO_306001 := n4_; have HO_306002 := n5_; have BK294 := n6_; have BK305 := n7_; have HB := n8_; clear n0_ n1_ n2_ n3_ n4_ n5_ n6_ n7_ n8_; (try clear hb); (try clear hkp); (try clear hy0); (try clear hy1); (try clear hy2); have hcz36_0 : w35.cell? ⟨gb305, 0, none⟩ = some (.slice Ao14 t295.length co14) := (blk_cell BK305.out 0).trans rfl; have hcz36_1 : w35.cell? ⟨gb305, 1, none⟩ = some (.slice Ao17 t298.length co17) := (blk_cell BK305.out 1).trans rfl; have hcz36_2 : w35.cell? ⟨gb305, 2, none⟩ = some (.slice Ao18 t301.length co18) := (blk_cell BK305.out 2).trans rfl; have hfz36_0 := blk_frozen BK305.out 0; have hfz36_1 := blk_frozen BK305.out 1; have hfz36_2 := blk_frozen BK305.out 2) | ((with_reducible refine gate_callee (f := 46) rfl ?_); refine goesL_ (some 38) rfl rfl Try.func46 (by kernel_rfl) rfl #[.agg #[.slice Ao14 t308.length co14, .slice Ao17 t309.length co17, .slice Ao18 t310.length co18], .int .i64 1] rfl Bd_31 ?_; (with_reducible refine (laws_heldLayout.calls kj4 _ _ t308 _ _ t309 _ _ t310 1 t311 _ ?side1 ?side2 ?side3 ?side4 ?side5 ?side6 A31.out).mono ?_); (case side1 => repeat (first | exact (Kd.R_reads' HO_306000.out).2.2 | (with_reducible refine Kd.C_alloc ?_ _) | (with_reducible refine Kd.C_drewN ?_ _) | (with_reducible refine Kd.C_drew ?_))); (case side2 => rw [show t308.length = t295.length from (Kd.R_reads' HO_306000.out).1.symm]; exact (Kd.R_reads' HO_306000.out).2.1); (case side3 => repeat (first | exact (Kd.R_reads' HO_306001.out).2.2 | (with_reducible refine Kd.C_alloc ?_ _) | (with_reducible refine Kd.C_drewN ?_ _) | (with_reducible refine Kd.C_drew ?_))); (case side4 => rw [show t309.length = t298.length from (Kd.R_reads' HO_306001.out).1.symm]; exact (Kd.R_reads' HO_306001.out).2.1); (case side5 => repeat (first | exact (Kd.R_reads' HO_306002.out).2.2 | (with_reducible refine Kd.C_alloc ?_ _) | (with_reducible refine Kd.C_drewN ?_ _) | (with_reducible refine Kd.C_drew ?_))); (case side6 => rw [show t310.length = t301.length from (Kd.R_reads' HO_306002.out).1.symm]; exact (Kd.R_reads' HO_306002.out).2.1); rintro e w37 ⟨rfl, hb⟩; refine ⟨_, rfl, ?_⟩; have n0_ := Aside0.mk (Kd.R_below Bd_23 hb); have n1_ := Aside0.mk (Kd.R_below Bd_24 hb); have n2_ := Aside0.mk (Kd.R_below Bd_25 hb); have n3_ := Aside0.mk (Kd.R_below Bd_26 hb); have n4_ := Aside0.mk (Kd.R_below Bd_27 hb); have n5_ := Aside0.mk (Kd.R_below Bd_28 hb); have n6_ := Aside0.mk (blk_below (g := gb294) (o := .cells #[.slice Ao8 t284.length co8, .slice Ao10 t287.length co10, .slice Ao11 t290.length co11] 39 (0, 0)) Bd_5 hb); have n7_ := Aside0.mk (blk_below (g := gb305) (o := .cells #[.slice Ao14 t295.length co14, .slice Ao17 t298.length co17, .slice Ao18 t301.length co18] 39 (0, 0)) Bd_6 hb); have n8_ := Aside0.mk (below_step Bd_2 hb); clear HO_295000; clear HO_295001; clear HO_295002; clear HO_306000; clear HO_306001; clear HO_306002; clear BK294; clear BK305; clear HB; have HO_295000 := n0_; have HO_295001 := n1_; have HO_295002 := n2_; have HO_306000 := n3_; have HO_306001 := n4_; have HO_306002 := n5_; have BK294 := n6_; have BK305 := n7_; have HB := n8_; clear n0_ n1_ n2_ n3_ n4_ n5_ n6_ n7_ n8_; (try clear hb); (try clear hb2); (try clear hk); (try clear hi)))
      go_ret
      exact ⟨by first | rfl | (simp [errW_none, errW_some] <;> rfl) | (simp [*, errW_none, errW_some] <;> rfl), by repeat (first | (with_reducible first | exact HB.out | apply below_alloc | apply pw_below_drewN | apply below_drew1 | refine below_set ?_ GE294.out | refine below_set ?_ GE305.out) | exact HB.out)⟩
     ·rw [if_neg c32] at H
      have c32b0 : decide (t311 < 0) = false := decide_eq_false c32
      clear c32
      by_cases c38 : t311 = t307
      ·rw [if_pos c38] at H
       have c38b0 : (t311 == t307) = true := beq_iff_eq.mpr c38
       have c38b1 : (t311 != t307) = false := bne_eq_false_iff_eq.mpr c38
       clear c38
       replace H := Option.bind_eq_some_iff.mp H
       obtain ⟨⟨t312, t315, t318, t321⟩, A390, H⟩ := H
       replace H : ((laws_eqLayout.f kj4 t312 t315 t318 t284 t287 t290).bind fun t323 => (if t323 = true then (laws_FnExactReadLayout.j1 kj4 t307 (t321 != t293) t308 t309 t310) else (laws_FnExactReadLayout.j1 kj4 t307 true t308 t309 t310))) = some r := H
       have A39 := Aside0.mk A390
       clear A390
       have HC40 := Aside0.mk H
       clear H
       have hnb41 := NB305_294.out
       have hnc41 := NB294_305.out
       have hcz42_0 : wc.cell? ⟨gb305, 0, none⟩ = some (.slice Ao14 t295.length co14) := (blk_cell BK305.out 0).trans rfl
       have hcz42_1 : wc.cell? ⟨gb305, 1, none⟩ = some (.slice Ao17 t298.length co17) := (blk_cell BK305.out 1).trans rfl
       have hcz42_2 : wc.cell? ⟨gb305, 2, none⟩ = some (.slice Ao18 t301.length co18) := (blk_cell BK305.out 2).trans rfl
       have hfz42_0 := blk_frozen BK305.out 0
       have hfz42_1 := blk_frozen BK305.out 1
       have hfz42_2 := blk_frozen BK305.out 2
       go_upto_region 16 with (first | ((with_reducible refine gate_callee (f := 45) rfl ?_); refine goesL_ (some 35) rfl rfl Try.func45 (by kernel_rfl) rfl #[.agg #[.slice Ao14 t295.length co14, .slice Ao17 t298.length co17, .slice Ao18 t301.length co18], .int .i64 1] rfl Bd_0 ?_; (with_reducible refine (laws_markLayout.calls kj4 (fun k_ => some k_ = (.slice Ao14 t295.length co14 : Value).ownBlock) (.slice Ao14 t295.length co14) t295 (fun k_ => some k_ = (.slice Ao17 t298.length co17 : Value).ownBlock) (.slice Ao17 t298.length co17) t298 (fun k_ => some k_ = (.slice Ao18 t301.length co18 : Value).ownBlock) (.slice Ao18 t301.length co18) t301 1 t307 t308 t309 t310 w _ ?side1 ?side2 ?side3 ?side4 ?side5 ?side6 ?side7 ?side8 ?side9 ?side10 A30.out).mono ?_); (case side1 => repeat (first | (with_reducible first | exact HB.out | apply below_alloc | apply pw_below_drewN | apply below_drew1 | refine below_set ?_ GE294.out | refine below_set ?_ GE305.out) | exact HB.out)); (case side2 => exact Kd.R_tight rfl HO_306000.out); (case side3 => exact fun k_ e_ => (HO_306000.out.1 k_ e_.symm).2.2.2.1); (case side4 => exact fun k_ e_ => (HO_306000.out.1 k_ e_.symm).2.2.2.2); (case side5 => exact Kd.R_tight rfl HO_306001.out); (case side6 => exact fun k_ e_ => (HO_306001.out.1 k_ e_.symm).2.2.2.1); (case side7 => exact fun k_ e_ => (HO_306001.out.1 k_ e_.symm).2.2.2.2); (case side8 => exact Kd.R_tight rfl HO_306002.out); (case side9 => exact fun k_ e_ => (HO_306002.out.1 k_ e_.symm).2.2.2.1); (case side10 => exact fun k_ e_ => (HO_306002.out.1 k_ e_.symm).2.2.2.2); rintro e w43 ⟨rfl, hy0, hy1, hy2, hb, hkp⟩; refine ⟨_, rfl, ?_⟩; have n0_ := Aside0.mk (Kd.R_mono (ok' := fun k_ => some k_ ≠ (.slice Ao10 t287.length co10 : Value).ownBlock ∧ some k_ ≠ (.slice Ao11 t290.length co11 : Value).ownBlock ∧ some k_ ≠ (.slice Ao14 t295.length co14 : Value).ownBlock ∧ some k_ ≠ (.slice Ao17 t298.length co17 : Value).ownBlock ∧ some k_ ≠ (.slice Ao18 t301.length co18 : Value).ownBlock) (Kd.R_keptB (HO_295000.out) hkp (fun k_ hk_ hs_ => Or.elim hs_ (fun e_ => (hk_.2.2.1) e_) (fun e_ => Or.elim e_ (fun e_ => (hk_.2.2.2.1) e_) (fun e_ => (hk_.2.2.2.2) e_)))) (fun k_ hk_ => ⟨hk_.1.1, hk_.1.2.1, hk_.1.2.2.1, hk_.1.2.2.2.1, hk_.1.2.2.2.2⟩)); have n1_ := Aside0.mk (Kd.R_mono (ok' := fun k_ => some k_ ≠ (.slice Ao8 t284.length co8 : Value).ownBlock ∧ some k_ ≠ (.slice Ao11 t290.length co11 : Value).ownBlock ∧ some k_ ≠ (.slice Ao14 t295.length co14 : Value).ownBlock ∧ some k_ ≠ (.slice Ao17 t298.length co17 : Value).ownBlock ∧ some k_ ≠ (.slice Ao18 t301.length co18 : Value).ownBlock) (Kd.R_keptB (HO_295001.out) hkp (fun k_ hk_ hs_ => Or.elim hs_ (fun e_ => (hk_.2.2.1) e_) (fun e_ => Or.elim e_ (fun e_ => (hk_.2.2.2.1) e_) (fun e_ => (hk_.2.2.2.2) e_)))) (fun k_ hk_ => ⟨hk_.1.1, hk_.1.2.1, hk_.1.2.2.1, hk_.1.2.2.2.1, hk_.1.2.2.2.2⟩)); have n2_ := Aside0.mk (Kd.R_mono (ok' := fun k_ => some k_ ≠ (.slice Ao8 t284.length co8 : Value).ownBlock ∧ some k_ ≠ (.slice Ao10 t287.length co10 : Value).ownBlock ∧ some k_ ≠ (.slice Ao14 t295.length co14 : Value).ownBlock ∧ some k_ ≠ (.slice Ao17 t298.length co17 : Value).ownBlock ∧ some k_ ≠ (.slice Ao18 t301.length co18 : Value).ownBlock) (Kd.R_keptB (HO_295002.out) hkp (fun k_ hk_ hs_ => Or.elim hs_ (fun e_ => (hk_.2.2.1) e_) (fun e_ => Or.elim e_ (fun e_ => (hk_.2.2.2.1) e_) (fun e_ => (hk_.2.2.2.2) e_)))) (fun k_ hk_ => ⟨hk_.1.1, hk_.1.2.1, hk_.1.2.2.1, hk_.1.2.2.2.1, hk_.1.2.2.2.2⟩)); have n3_ := Aside0.mk (Kd.R_reok rfl hy0 (fun k_ e_ => HO_306000.out.1 k_ e_)); have n4_ := Aside0.mk (Kd.R_reok rfl hy1 (fun k_ e_ => HO_306001.out.1 k_ e_)); have n5_ := Aside0.mk (Kd.R_reok rfl hy2 (fun k_ e_ => HO_306002.out.1 k_ e_)); have n6_ := Aside0.mk (blk_kept Bd_5 hkp (fun hs_ => Or.elim hs_ (fun e_ => (fun e_ => (Kd.R_ne HO_306000.out BK294.out (by decide)) e_) e_) (fun e_ => Or.elim e_ (fun e_ => (fun e_ => (Kd.R_ne HO_306001.out BK294.out (by decide)) e_) e_) (fun e_ => (fun e_ => (Kd.R_ne HO_306002.out BK294.out (by decide)) e_) e_)))); have n7_ := Aside0.mk (blk_kept Bd_6 hkp (fun hs_ => Or.elim hs_ (fun e_ => (fun e_ => (Kd.R_ne HO_306000.out BK305.out (by decide)) e_) e_) (fun e_ => Or.elim e_ (fun e_ => (fun e_ => (Kd.R_ne HO_306001.out BK305.out (by decide)) e_) e_) (fun e_ => (fun e_ => (Kd.R_ne HO_306002.out BK305.out (by decide)) e_) e_)))); have n8_ := Aside0.mk (hb); clear HO_295000; clear HO_295001; clear HO_295002; clear HO_306000; clear HO_306001; clear HO_306002; clear BK294; clear BK305; clear HB; have HO_295000 := n0_; have HO_295001 := n1_; have HO_295002 := n2_; have HO_306000 := n3_; have HO_306001 := n4_; have HO_306002 := n5_; have BK294 := n6_; have BK305 := n7_; have HB := n8_; clear n0_ n1_ n2_ n3_ n4_ n5_ n6_ n7_ n8_; (try clear hb); (try clear hkp); (try clear hy0); (try clear hy1); (try clear hy2); have hcz44_0 : w43.cell? ⟨gb305, 0, none⟩ = some (.slice Ao14 t295.length co14) := (blk_cell BK305.out 0).trans rfl; have hcz44_1 : w43.cell? ⟨gb305, 1, none⟩ = some (.slice Ao17 t298.length co17) := (blk_cell BK305.out 1).trans rfl; have hcz44_2 : w43.cell? ⟨gb305, 2, none⟩ = some (.slice Ao18 t301.length co18) := (blk_cell BK305.out 2).trans rfl; have hfz44_0 := blk_frozen BK305.out 0; have hfz44_1 := blk_frozen BK305.out 1; have hfz44_2 := blk_frozen BK305.out 2) | ((with_reducible refine gate_callee (f := 46) rfl ?_); refine goesL_ (some 38) rfl rfl Try.func46 (by kernel_rfl) rfl #[.agg #[.slice Ao14 t308.length co14, .slice Ao17 t309.length co17, .slice Ao18 t310.length co18], .int .i64 1] rfl Bd_31 ?_; (with_reducible refine (laws_heldLayout.calls kj4 _ _ t308 _ _ t309 _ _ t310 1 t311 _ ?side1 ?side2 ?side3 ?side4 ?side5 ?side6 A31.out).mono ?_); (case side1 => repeat (first | exact (Kd.R_reads' HO_306000.out).2.2 | (with_reducible refine Kd.C_alloc ?_ _) | (with_reducible refine Kd.C_drewN ?_ _) | (with_reducible refine Kd.C_drew ?_))); (case side2 => rw [show t308.length = t295.length from (Kd.R_reads' HO_306000.out).1.symm]; exact (Kd.R_reads' HO_306000.out).2.1); (case side3 => repeat (first | exact (Kd.R_reads' HO_306001.out).2.2 | (with_reducible refine Kd.C_alloc ?_ _) | (with_reducible refine Kd.C_drewN ?_ _) | (with_reducible refine Kd.C_drew ?_))); (case side4 => rw [show t309.length = t298.length from (Kd.R_reads' HO_306001.out).1.symm]; exact (Kd.R_reads' HO_306001.out).2.1); (case side5 => repeat (first | exact (Kd.R_reads' HO_306002.out).2.2 | (with_reducible refine Kd.C_alloc ?_ _) | (with_reducible refine Kd.C_drewN ?_ _) | (with_reducible refine Kd.C_drew ?_))); (case side6 => rw [show t310.length = t301.length from (Kd.R_reads' HO_306002.out).1.symm]; exact (Kd.R_reads' HO_306002.out).2.1); rintro e w45 ⟨rfl, hb⟩; refine ⟨_, rfl, ?_⟩; have n0_ := Aside0.mk (Kd.R_below Bd_23 hb); have n1_ := Aside0.mk (Kd.R_below Bd_24 hb); have n2_ := Aside0.mk (Kd.R_below Bd_25 hb); have n3_ := Aside0.mk (Kd.R_below Bd_26 hb); have n4_ := Aside0.mk (Kd.R_below Bd_27 hb); have n5_ := Aside0.mk (Kd.R_below Bd_28 hb); have n6_ := Aside0.mk (blk_below (g := gb294) (o := .cells #[.slice Ao8 t284.length co8, .slice Ao10 t287.length co10, .slice Ao11 t290.length co11] 39 (0, 0)) Bd_5 hb); have n7_ := Aside0.mk (blk_below (g := gb305) (o := .cells #[.slice Ao14 t295.length co14, .slice Ao17 t298.length co17, .slice Ao18 t301.length co18] 39 (0, 0)) Bd_6 hb); have n8_ := Aside0.mk (below_step Bd_2 hb); clear HO_295000; clear HO_295001; clear HO_295002; clear HO_306000; clear HO_306001; clear HO_306002; clear BK294; clear BK305; clear HB; have HO_295000 := n0_; have HO_295001 := n1_; have HO_295002 := n2_; have HO_306000 := n3_; have HO_306001 := n4_; have HO_306002 := n5_; have BK294 := n6_; have BK305 := n7_; have HB := n8_; clear n0_ n1_ n2_ n3_ n4_ n5_ n6_ n7_ n8_; (try clear hb); (try clear hb2); (try clear hk); (try clear hi)) | ((with_reducible refine gate_callee (f := 24) rfl ?_); refine goesL_ (some 46) rfl rfl Try.func24 (by kernel_rfl) rfl #[.string a0] rfl Bd_0 ?_; (with_reducible refine (impl_ReadLayout.calls kj4 a0 t312 t315 t318 t321 _ A39.out).mono ?_); rintro e w46 ⟨v313, v316, v319, rfl, ho0, ho1, ho2, hb⟩; refine ⟨_, rfl, ?_⟩; have n0_ := Aside0.mk (Kd.R_mono (Kd.R_told (Kd.R_told (Kd.R_told (Kd.R_old Bd_23 hb) (Kd.R_base ho0)) (Kd.R_base ho1)) (Kd.R_base ho2)) (fun _ h_ => h_.1)); have n1_ := Aside0.mk (Kd.R_mono (Kd.R_told (Kd.R_told (Kd.R_told (Kd.R_old Bd_24 hb) (Kd.R_base ho0)) (Kd.R_base ho1)) (Kd.R_base ho2)) (fun _ h_ => h_.1)); have n2_ := Aside0.mk (Kd.R_mono (Kd.R_told (Kd.R_told (Kd.R_told (Kd.R_old Bd_25 hb) (Kd.R_base ho0)) (Kd.R_base ho1)) (Kd.R_base ho2)) (fun _ h_ => h_.1)); have n3_ := Aside0.mk (Kd.R_mono (Kd.R_told (Kd.R_told (Kd.R_told (Kd.R_old Bd_26 hb) (Kd.R_base ho0)) (Kd.R_base ho1)) (Kd.R_base ho2)) (fun _ h_ => h_.1)); have n4_ := Aside0.mk (Kd.R_mono (Kd.R_told (Kd.R_told (Kd.R_told (Kd.R_old Bd_27 hb) (Kd.R_base ho0)) (Kd.R_base ho1)) (Kd.R_base ho2)) (fun _ h_ => h_.1)); have n5_ := Aside0.mk (Kd.R_mono (Kd.R_told (Kd.R_told (Kd.R_told (Kd.R_old Bd_28 hb) (Kd.R_base ho0)) (Kd.R_base ho1)) (Kd.R_base ho2)) (fun _ h_ => h_.1)); have n6_ := Aside0.mk (Kd.R_lower (Kd.R_new' (Kd.R_new' (Kd.R_new' (Kd.R_new' (Kd.R_new' (Kd.R_new' ho0 (Kd.R_lt Bd_23)) (Kd.R_lt Bd_24)) (Kd.R_lt Bd_25)) (Kd.R_lt Bd_26)) (Kd.R_lt Bd_27)) (Kd.R_lt Bd_28)) (below_size Bd_2)); have n7_ := Aside0.mk (Kd.R_lower (Kd.R_new' (Kd.R_new' (Kd.R_new' (Kd.R_new' (Kd.R_new' (Kd.R_new' ho1 (Kd.R_lt Bd_23)) (Kd.R_lt Bd_24)) (Kd.R_lt Bd_25)) (Kd.R_lt Bd_26)) (Kd.R_lt Bd_27)) (Kd.R_lt Bd_28)) (below_size Bd_2)); have n8_ := Aside0.mk (Kd.R_lower (Kd.R_new' (Kd.R_new' (Kd.R_new' (Kd.R_new' (Kd.R_new' (Kd.R_new' ho2 (Kd.R_lt Bd_23)) (Kd.R_lt Bd_24)) (Kd.R_lt Bd_25)) (Kd.R_lt Bd_26)) (Kd.R_lt Bd_27)) (Kd.R_lt Bd_28)) (below_size Bd_2)); have n9_ := Aside0.mk (blk_below (g := gb294) (o := .cells #[.slice Ao8 t284.length co8, .slice Ao10 t287.length co10, .slice Ao11 t290.length co11] 39 (0, 0)) Bd_5 hb); have n10_ := Aside0.mk (blk_below (g := gb305) (o := .cells #[.slice Ao14 t295.length co14, .slice Ao17 t298.length co17, .slice Ao18 t301.length co18] 39 (0, 0)) Bd_6 hb); have n11_ := Aside0.mk (below_step Bd_2 hb); clear HO_295000; clear HO_295001; clear HO_295002; clear HO_306000; clear HO_306001; clear HO_306002; clear BK294; clear BK305; clear HB; have HO_295000 := n0_; have HO_295001 := n1_; have HO_295002 := n2_; have HO_306000 := n3_; have HO_306001 := n4_; have HO_306002 := n5_; have HO314 := n6_; have HO317 := n7_; have HO320 := n8_; have BK294 := n9_; have BK305 := n10_; have HB := n11_; clear n0_ n1_ n2_ n3_ n4_ n5_ n6_ n7_ n8_ n9_ n10_ n11_; (try clear hb); (try clear hb2); (try clear hk); (try clear hi); (try clear ho0); (try clear ho1); (try clear ho2)) | ((with_reducible refine gate_dst (N := 9) rfl ?_); refine box_event ?hg (N := 9) ?hd (cs := #[.slice none 0 0, .slice none 0 0, .slice none 0 0]) (t := 39) ?hr ?_; (case hd => rfl); (case hg => rfl); (case hr => first | (go_simp; done) | (go_simp; rfl)); intro gb322 hg w47 hbox hb; have n0_ := Aside0.mk (Kd.R_below Bd_23 hb); have n1_ := Aside0.mk (Kd.R_below Bd_24 hb); have n2_ := Aside0.mk (Kd.R_below Bd_25 hb); have n3_ := Aside0.mk (Kd.R_below Bd_26 hb); have n4_ := Aside0.mk (Kd.R_below Bd_27 hb); have n5_ := Aside0.mk (Kd.R_below Bd_28 hb); have n6_ := Aside0.mk (Kd.R_below (by (with_reducible repeat (first | apply Kd.R_alloc | apply Kd.R_drewN | apply Kd.R_drew)); exact HO314.out) hb); have n7_ := Aside0.mk (Kd.R_below (by (with_reducible repeat (first | apply Kd.R_alloc | apply Kd.R_drewN | apply Kd.R_drew)); exact HO317.out) hb); have n8_ := Aside0.mk (Kd.R_below (by (with_reducible repeat (first | apply Kd.R_alloc | apply Kd.R_drewN | apply Kd.R_drew)); exact HO320.out) hb); have n9_ := Aside0.mk (blk_below (g := gb294) (o := .cells #[.slice Ao8 t284.length co8, .slice Ao10 t287.length co10, .slice Ao11 t290.length co11] 39 (0, 0)) Bd_5 hb); have n10_ := Aside0.mk (blk_below (g := gb305) (o := .cells #[.slice Ao14 t295.length co14, .slice Ao17 t298.length co17, .slice Ao18 t301.length co18] 39 (0, 0)) Bd_6 hb); have n11_ := Aside0.mk (below_step Bd_2 hb); have n12_ := Aside0.mk (hbox); have n13_ := Aside0.mk ((by rw [hg]; exact (below_size Bd_2) : w.heap.size ≤ gb322)); have n14_ := Aside0.mk ((by rw [hg]; exact (below_size Bd_2) : w.heap.size ≤ gb322)); have n15_ := Aside0.mk ((by rw [hg]; exact Nat.ne_of_lt (blk_lt (g := gb294) (o := .cells #[.slice Ao8 t284.length co8, .slice Ao10 t287.length co10, .slice Ao11 t290.length co11] 39 (0, 0)) Bd_5) : gb294 ≠ gb322)); have n16_ := Aside0.mk ((by rw [hg]; exact Nat.ne_of_gt (blk_lt (g := gb294) (o := .cells #[.slice Ao8 t284.length co8, .slice Ao10 t287.length co10, .slice Ao11 t290.length co11] 39 (0, 0)) Bd_5) : gb322 ≠ gb294)); have n17_ := Aside0.mk ((by rw [hg]; exact Nat.ne_of_lt (blk_lt (g := gb305) (o := .cells #[.slice Ao14 t295.length co14, .slice Ao17 t298.length co17, .slice Ao18 t301.length co18] 39 (0, 0)) Bd_6) : gb305 ≠ gb322)); have n18_ := Aside0.mk ((by rw [hg]; exact Nat.ne_of_gt (blk_lt (g := gb305) (o := .cells #[.slice Ao14 t295.length co14, .slice Ao17 t298.length co17, .slice Ao18 t301.length co18] 39 (0, 0)) Bd_6) : gb322 ≠ gb305)); clear HO_295000; clear HO_295001; clear HO_295002; clear HO_306000; clear HO_306001; clear HO_306002; clear HO314; clear HO317; clear HO320; clear BK294; clear BK305; clear HB; have HO_295000 := n0_; have HO_295001 := n1_; have HO_295002 := n2_; have HO_306000 := n3_; have HO_306001 := n4_; have HO_306002 := n5_; have HO314 := n6_; have HO317 := n7_; have HO320 := n8_; have BK294 := n9_; have BK305 := n10_; have HB := n11_; have BK322 := n12_; have GW322 := n13_; have GE322 := n14_; have NB294_322 := n15_; have NB322_294 := n16_; have NB305_322 := n17_; have NB322_305 := n18_; clear n0_ n1_ n2_ n3_ n4_ n5_ n6_ n7_ n8_ n9_ n10_ n11_ n12_ n13_ n14_ n15_ n16_ n17_ n18_; clear hb hbox hg; obtain ⟨Ao48, co48, eo48⟩ := Kd.R_slice HO314.out; subst eo48; have hnb49 := NB322_294.out; have hnc49 := NB294_322.out; have hnb50 := NB322_305.out; have hnc50 := NB305_322.out; have hcz51_0 : w47.cell? ⟨gb322, 0, none⟩ = some (.slice none 0 0) := (blk_cell BK322.out 0).trans rfl; have hcz51_1 : w47.cell? ⟨gb322, 1, none⟩ = some (.slice none 0 0) := (blk_cell BK322.out 1).trans rfl; have hcz51_2 : w47.cell? ⟨gb322, 2, none⟩ = some (.slice none 0 0) := (blk_cell BK322.out 2).trans rfl; have hfz51_0 := blk_frozen BK322.out 0; have hfz51_1 := blk_frozen BK322.out 1; have hfz51_2 := blk_frozen BK322.out 2; obtain ⟨Ao52, co52, eo52⟩ := Kd.R_slice HO317.out; subst eo52; obtain ⟨Ao53, co53, eo53⟩ := Kd.R_slice HO320.out; subst eo53))
       (try simp only [Act.put, List.setIfInBounds_toArray, List.set_cons_zero, List.set_cons_succ])
       go_cut [57] (fun v57 wc => ∃ (kq : Nat) (x57_39 : Bool), v57 = .bool x57_39 ∧ Aside0 (laws_FnExactReadLayout.j1 kq t307 x57_39 t308 t309 t310 = some r) ∧ Aside0 (kq ≤ kj4) ∧ Aside0 (Kd.R (Kd.int .i64) 3 wc w.heap.size (fun k_ => some k_ ≠ ((.slice Ao10 t287.length co10) : Value).ownBlock ∧ some k_ ≠ ((.slice Ao11 t290.length co11) : Value).ownBlock ∧ some k_ ≠ ((.slice Ao14 t295.length co14) : Value).ownBlock ∧ some k_ ≠ ((.slice Ao17 t298.length co17) : Value).ownBlock ∧ some k_ ≠ ((.slice Ao18 t301.length co18) : Value).ownBlock ∧ some k_ ≠ ((.slice Ao48 t312.length co48) : Value).ownBlock ∧ some k_ ≠ ((.slice Ao52 t315.length co52) : Value).ownBlock ∧ some k_ ≠ ((.slice Ao53 t318.length co53) : Value).ownBlock) (.slice Ao8 t284.length co8) t284) ∧ Aside0 (Kd.R (Kd.int .i64) 3 wc w.heap.size (fun k_ => some k_ ≠ ((.slice Ao8 t284.length co8) : Value).ownBlock ∧ some k_ ≠ ((.slice Ao11 t290.length co11) : Value).ownBlock ∧ some k_ ≠ ((.slice Ao14 t295.length co14) : Value).ownBlock ∧ some k_ ≠ ((.slice Ao17 t298.length co17) : Value).ownBlock ∧ some k_ ≠ ((.slice Ao18 t301.length co18) : Value).ownBlock ∧ some k_ ≠ ((.slice Ao48 t312.length co48) : Value).ownBlock ∧ some k_ ≠ ((.slice Ao52 t315.length co52) : Value).ownBlock ∧ some k_ ≠ ((.slice Ao53 t318.length co53) : Value).ownBlock) (.slice Ao10 t287.length co10) t287) ∧ Aside0 (Kd.R (Kd.int .i64) 3 wc w.heap.size (fun k_ => some k_ ≠ ((.slice Ao8 t284.length co8) : Value).ownBlock ∧ some k_ ≠ ((.slice Ao10 t287.length co10) : Value).ownBlock ∧ some k_ ≠ ((.slice Ao14 t295.length co14) : Value).ownBlock ∧ some k_ ≠ ((.slice Ao17 t298.length co17) : Value).ownBlock ∧ some k_ ≠ ((.slice Ao18 t301.length co18) : Value).ownBlock ∧ some k_ ≠ ((.slice Ao48 t312.length co48) : Value).ownBlock ∧ some k_ ≠ ((.slice Ao52 t315.length co52) : Value).ownBlock ∧ some k_ ≠ ((.slice Ao53 t318.length co53) : Value).ownBlock) (.slice Ao11 t290.length co11) t290) ∧ Aside0 (Kd.R (Kd.int .i64) 3 wc w.heap.size (fun k_ => some k_ ≠ ((.slice Ao8 t284.length co8) : Value).ownBlock ∧ some k_ ≠ ((.slice Ao10 t287.length co10) : Value).ownBlock ∧ some k_ ≠ ((.slice Ao11 t290.length co11) : Value).ownBlock ∧ some k_ ≠ ((.slice Ao17 t298.length co17) : Value).ownBlock ∧ some k_ ≠ ((.slice Ao18 t301.length co18) : Value).ownBlock ∧ some k_ ≠ ((.slice Ao48 t312.length co48) : Value).ownBlock ∧ some k_ ≠ ((.slice Ao52 t315.length co52) : Value).ownBlock ∧ some k_ ≠ ((.slice Ao53 t318.length co53) : Value).ownBlock) (.slice Ao14 t295.length co14) t308) ∧ Aside0 (Kd.R (Kd.int .i64) 3 wc w.heap.size (fun k_ => some k_ ≠ ((.slice Ao8 t284.length co8) : Value).ownBlock ∧ some k_ ≠ ((.slice Ao10 t287.length co10) : Value).ownBlock ∧ some k_ ≠ ((.slice Ao11 t290.length co11) : Value).ownBlock ∧ some k_ ≠ ((.slice Ao14 t295.length co14) : Value).ownBlock ∧ some k_ ≠ ((.slice Ao18 t301.length co18) : Value).ownBlock ∧ some k_ ≠ ((.slice Ao48 t312.length co48) : Value).ownBlock ∧ some k_ ≠ ((.slice Ao52 t315.length co52) : Value).ownBlock ∧ some k_ ≠ ((.slice Ao53 t318.length co53) : Value).ownBlock) (.slice Ao17 t298.length co17) t309) ∧ Aside0 (Kd.R (Kd.int .i64) 3 wc w.heap.size (fun k_ => some k_ ≠ ((.slice Ao8 t284.length co8) : Value).ownBlock ∧ some k_ ≠ ((.slice Ao10 t287.length co10) : Value).ownBlock ∧ some k_ ≠ ((.slice Ao11 t290.length co11) : Value).ownBlock ∧ some k_ ≠ ((.slice Ao14 t295.length co14) : Value).ownBlock ∧ some k_ ≠ ((.slice Ao17 t298.length co17) : Value).ownBlock ∧ some k_ ≠ ((.slice Ao48 t312.length co48) : Value).ownBlock ∧ some k_ ≠ ((.slice Ao52 t315.length co52) : Value).ownBlock ∧ some k_ ≠ ((.slice Ao53 t318.length co53) : Value).ownBlock) (.slice Ao18 t301.length co18) t310) ∧ Aside0 (Kd.R (Kd.int .i64) 3 wc w.heap.size (fun k_ => some k_ ≠ ((.slice Ao8 t284.length co8) : Value).ownBlock ∧ some k_ ≠ ((.slice Ao10 t287.length co10) : Value).ownBlock ∧ some k_ ≠ ((.slice Ao11 t290.length co11) : Value).ownBlock ∧ some k_ ≠ ((.slice Ao14 t295.length co14) : Value).ownBlock ∧ some k_ ≠ ((.slice Ao17 t298.length co17) : Value).ownBlock ∧ some k_ ≠ ((.slice Ao18 t301.length co18) : Value).ownBlock ∧ some k_ ≠ ((.slice Ao52 t315.length co52) : Value).ownBlock ∧ some k_ ≠ ((.slice Ao53 t318.length co53) : Value).ownBlock) (.slice Ao48 t312.length co48) t312) ∧ Aside0 (Kd.R (Kd.int .i64) 3 wc w.heap.size (fun k_ => some k_ ≠ ((.slice Ao8 t284.length co8) : Value).ownBlock ∧ some k_ ≠ ((.slice Ao10 t287.length co10) : Value).ownBlock ∧ some k_ ≠ ((.slice Ao11 t290.length co11) : Value).ownBlock ∧ some k_ ≠ ((.slice Ao14 t295.length co14) : Value).ownBlock ∧ some k_ ≠ ((.slice Ao17 t298.length co17) : Value).ownBlock ∧ some k_ ≠ ((.slice Ao18 t301.length co18) : Value).ownBlock ∧ some k_ ≠ ((.slice Ao48 t312.length co48) : Value).ownBlock ∧ some k_ ≠ ((.slice Ao53 t318.length co53) : Value).ownBlock) (.slice Ao52 t315.length co52) t315) ∧ Aside0 (Kd.R (Kd.int .i64) 3 wc w.heap.size (fun k_ => some k_ ≠ ((.slice Ao8 t284.length co8) : Value).ownBlock ∧ some k_ ≠ ((.slice Ao10 t287.length co10) : Value).ownBlock ∧ some k_ ≠ ((.slice Ao11 t290.length co11) : Value).ownBlock ∧ some k_ ≠ ((.slice Ao14 t295.length co14) : Value).ownBlock ∧ some k_ ≠ ((.slice Ao17 t298.length co17) : Value).ownBlock ∧ some k_ ≠ ((.slice Ao18 t301.length co18) : Value).ownBlock ∧ some k_ ≠ ((.slice Ao48 t312.length co48) : Value).ownBlock ∧ some k_ ≠ ((.slice Ao52 t315.length co52) : Value).ownBlock) (.slice Ao53 t318.length co53) t318) ∧ Aside0 (wc.heap[gb294]? = some (.cells #[(.slice Ao8 t284.length co8), (.slice Ao10 t287.length co10), (.slice Ao11 t290.length co11)] 39 (0, 0))) ∧ Aside0 (wc.heap[gb305]? = some (.cells #[(.slice Ao14 t295.length co14), (.slice Ao17 t298.length co17), (.slice Ao18 t301.length co18)] 39 (0, 0))) ∧ Aside0 (wc.heap[gb322]? = some (.cells #[(.slice Ao48 t312.length co48), (.slice Ao52 t315.length co52), (.slice Ao53 t318.length co53)] 39 (0, 0))) ∧ Aside0 (Below w.heap.size w wc))
       case first =>
        have H := HC40.out
        clear HC40
        replace H := Option.bind_eq_some_iff.mp H
        obtain ⟨t323, A540, H⟩ := H
        replace H : (if t323 = true then (laws_FnExactReadLayout.j1 kj4 t307 (t321 != t293) t308 t309 t310) else (laws_FnExactReadLayout.j1 kj4 t307 true t308 t309 t310)) = some r := H
        have A54 := Aside0.mk A540
        clear A540
        by_cases c55 : t323 = true
        ·subst c55
         have H1 : (laws_FnExactReadLayout.j1 kj4 t307 (t321 != t293) t308 t309 t310) = some r := by rw [if_pos rfl] at H; exact H
         clear H
         have H := H1
         clear H1
         have H' := Aside0.mk H
         clear H
         have hnb56 := NB322_294.out
         have hnc56 := NB294_322.out
         have hnb57 := NB322_305.out
         have hnc57 := NB305_322.out
         have hcz58_0 : w47.cell? ⟨gb322, 0, none⟩ = some (.slice none 0 0) := (blk_cell BK322.out 0).trans rfl
         have hcz58_1 : w47.cell? ⟨gb322, 1, none⟩ = some (.slice none 0 0) := (blk_cell BK322.out 1).trans rfl
         have hcz58_2 : w47.cell? ⟨gb322, 2, none⟩ = some (.slice none 0 0) := (blk_cell BK322.out 2).trans rfl
         have hfz58_0 := blk_frozen BK322.out 0
         have hfz58_1 := blk_frozen BK322.out 1
         have hfz58_2 := blk_frozen BK322.out 2
         have hnb59 := NB294_305.out
         have hnc59 := NB305_294.out
         have hcz60_0 : w47.cell? ⟨gb294, 0, none⟩ = some (.slice Ao8 t284.length co8) := (blk_cell BK294.out 0).trans rfl
         have hcz60_1 : w47.cell? ⟨gb294, 1, none⟩ = some (.slice Ao10 t287.length co10) := (blk_cell BK294.out 1).trans rfl
         have hcz60_2 : w47.cell? ⟨gb294, 2, none⟩ = some (.slice Ao11 t290.length co11) := (blk_cell BK294.out 2).trans rfl
         have hfz60_0 := blk_frozen BK294.out 0
         have hfz60_1 := blk_frozen BK294.out 1
         have hfz60_2 := blk_frozen BK294.out 2
         go_wp2_with (first | ((with_reducible refine gate_callee (f := 44) rfl ?_); refine goesL_ (some 51) rfl rfl Try.func44 (by kernel_rfl) rfl #[.agg #[.slice Ao48 t312.length co48, .slice Ao52 t315.length co52, .slice Ao53 t318.length co53], .agg #[.slice Ao8 t284.length co8, .slice Ao10 t287.length co10, .slice Ao11 t290.length co11]] rfl Bd_0 ?_; (with_reducible refine (laws_eqLayout.calls kj4 _ _ t312 _ _ t315 _ _ t318 _ _ t284 _ _ t287 _ _ t290 true _ ?side1 ?side2 ?side3 ?side4 ?side5 ?side6 ?side7 ?side8 ?side9 ?side10 ?side11 ?side12 A54.out).mono ?_); (case side1 => refine (Kd.R_reads' (e := 3) (base := w.heap.size) (ok := fun k_ => (((((((some k_ ≠ (.slice Ao52 t315.length co52 : Value).ownBlock ∧ some k_ ≠ (.slice Ao53 t318.length co53 : Value).ownBlock) ∧ some k_ ≠ (.slice Ao8 t284.length co8 : Value).ownBlock) ∧ some k_ ≠ (.slice Ao10 t287.length co10 : Value).ownBlock) ∧ some k_ ≠ (.slice Ao11 t290.length co11 : Value).ownBlock) ∧ some k_ ≠ (.slice Ao14 t295.length co14 : Value).ownBlock) ∧ some k_ ≠ (.slice Ao17 t298.length co17 : Value).ownBlock) ∧ some k_ ≠ (.slice Ao18 t301.length co18 : Value).ownBlock)) (n := t312.length) (c := co48) ?_).2.2; exact Bd_17); (case side2 => exact (Kd.R_reads' HO314.out).2.1); (case side3 => refine (Kd.R_reads' (e := 3) (base := w.heap.size) (ok := fun k_ => (((((((some k_ ≠ (.slice Ao48 t312.length co48 : Value).ownBlock ∧ some k_ ≠ (.slice Ao53 t318.length co53 : Value).ownBlock) ∧ some k_ ≠ (.slice Ao8 t284.length co8 : Value).ownBlock) ∧ some k_ ≠ (.slice Ao10 t287.length co10 : Value).ownBlock) ∧ some k_ ≠ (.slice Ao11 t290.length co11 : Value).ownBlock) ∧ some k_ ≠ (.slice Ao14 t295.length co14 : Value).ownBlock) ∧ some k_ ≠ (.slice Ao17 t298.length co17 : Value).ownBlock) ∧ some k_ ≠ (.slice Ao18 t301.length co18 : Value).ownBlock)) (n := t315.length) (c := co52) ?_).2.2; exact Bd_18); (case side4 => exact (Kd.R_reads' HO317.out).2.1); (case side5 => refine (Kd.R_reads' (e := 3) (base := w.heap.size) (ok := fun k_ => (((((((some k_ ≠ (.slice Ao48 t312.length co48 : Value).ownBlock ∧ some k_ ≠ (.slice Ao52 t315.length co52 : Value).ownBlock) ∧ some k_ ≠ (.slice Ao8 t284.length co8 : Value).ownBlock) ∧ some k_ ≠ (.slice Ao10 t287.length co10 : Value).ownBlock) ∧ some k_ ≠ (.slice Ao11 t290.length co11 : Value).ownBlock) ∧ some k_ ≠ (.slice Ao14 t295.length co14 : Value).ownBlock) ∧ some k_ ≠ (.slice Ao17 t298.length co17 : Value).ownBlock) ∧ some k_ ≠ (.slice Ao18 t301.length co18 : Value).ownBlock)) (n := t318.length) (c := co53) ?_).2.2; exact Bd_19); (case side6 => exact (Kd.R_reads' HO320.out).2.1); (case side7 => refine (Kd.R_reads' (e := 3) (base := w.heap.size) (ok := fun k_ => ((((some k_ ≠ (.slice Ao10 t287.length co10 : Value).ownBlock ∧ (some k_ ≠ (.slice Ao11 t290.length co11 : Value).ownBlock ∧ (some k_ ≠ (.slice Ao14 t295.length co14 : Value).ownBlock ∧ (some k_ ≠ (.slice Ao17 t298.length co17 : Value).ownBlock ∧ some k_ ≠ (.slice Ao18 t301.length co18 : Value).ownBlock)))) ∧ some k_ ≠ (.slice Ao48 t312.length co48 : Value).ownBlock) ∧ some k_ ≠ (.slice Ao52 t315.length co52 : Value).ownBlock) ∧ some k_ ≠ (.slice Ao53 t318.length co53 : Value).ownBlock)) (n := t284.length) (c := co8) ?_).2.2; exact Bd_8); (case side8 => exact (Kd.R_reads' HO_295000.out).2.1); (case side9 => refine (Kd.R_reads' (e := 3) (base := w.heap.size) (ok := fun k_ => ((((some k_ ≠ (.slice Ao8 t284.length co8 : Value).ownBlock ∧ (some k_ ≠ (.slice Ao11 t290.length co11 : Value).ownBlock ∧ (some k_ ≠ (.slice Ao14 t295.length co14 : Value).ownBlock ∧ (some k_ ≠ (.slice Ao17 t298.length co17 : Value).ownBlock ∧ some k_ ≠ (.slice Ao18 t301.length co18 : Value).ownBlock)))) ∧ some k_ ≠ (.slice Ao48 t312.length co48 : Value).ownBlock) ∧ some k_ ≠ (.slice Ao52 t315.length co52 : Value).ownBlock) ∧ some k_ ≠ (.slice Ao53 t318.length co53 : Value).ownBlock)) (n := t287.length) (c := co10) ?_).2.2; exact Bd_9); (case side10 => exact (Kd.R_reads' HO_295001.out).2.1); (case side11 => refine (Kd.R_reads' (e := 3) (base := w.heap.size) (ok := fun k_ => ((((some k_ ≠ (.slice Ao8 t284.length co8 : Value).ownBlock ∧ (some k_ ≠ (.slice Ao10 t287.length co10 : Value).ownBlock ∧ (some k_ ≠ (.slice Ao14 t295.length co14 : Value).ownBlock ∧ (some k_ ≠ (.slice Ao17 t298.length co17 : Value).ownBlock ∧ some k_ ≠ (.slice Ao18 t301.length co18 : Value).ownBlock)))) ∧ some k_ ≠ (.slice Ao48 t312.length co48 : Value).ownBlock) ∧ some k_ ≠ (.slice Ao52 t315.length co52 : Value).ownBlock) ∧ some k_ ≠ (.slice Ao53 t318.length co53 : Value).ownBlock)) (n := t290.length) (c := co11) ?_).2.2; exact Bd_10); (case side12 => exact (Kd.R_reads' HO_295002.out).2.1); rintro e w61 ⟨rfl, hb⟩; refine ⟨_, rfl, ?_⟩; have n0_ := Aside0.mk (Kd.R_below Bd_8 hb); have n1_ := Aside0.mk (Kd.R_below Bd_9 hb); have n2_ := Aside0.mk (Kd.R_below Bd_10 hb); have n3_ := Aside0.mk (Kd.R_below Bd_40 hb); have n4_ := Aside0.mk (Kd.R_below Bd_41 hb); have n5_ := Aside0.mk (Kd.R_below Bd_42 hb); have n6_ := Aside0.mk (Kd.R_below Bd_17 hb); have n7_ := Aside0.mk (Kd.R_below Bd_18 hb); have n8_ := Aside0.mk (Kd.R_below Bd_19 hb); have n9_ := Aside0.mk (blk_below (g := gb294) (o := .cells #[.slice Ao8 t284.length co8, .slice Ao10 t287.length co10, .slice Ao11 t290.length co11] 39 (0, 0)) Bd_38 hb); have n10_ := Aside0.mk (blk_below (g := gb305) (o := .cells #[.slice Ao14 t295.length co14, .slice Ao17 t298.length co17, .slice Ao18 t301.length co18] 39 (0, 0)) Bd_39 hb); have n11_ := Aside0.mk (blk_below (g := gb322) (o := .cells #[.slice Ao48 t312.length co48, .slice Ao52 t315.length co52, .slice Ao53 t318.length co53] 39 (0, 0)) Bd_33 hb); have n12_ := Aside0.mk (below_step Bd_30 hb); clear HO_295000; clear HO_295001; clear HO_295002; clear HO_306000; clear HO_306001; clear HO_306002; clear HO314; clear HO317; clear HO320; clear BK294; clear BK305; clear BK322; clear HB; have HO_295000 := n0_; have HO_295001 := n1_; have HO_295002 := n2_; have HO_306000 := n3_; have HO_306001 := n4_; have HO_306002 := n5_; have HO314 := n6_; have HO317 := n7_; have HO320 := n8_; have BK294 := n9_; have BK305 := n10_; have BK322 := n11_; have HB := n12_; clear n0_ n1_ n2_ n3_ n4_ n5_ n6_ n7_ n8_ n9_ n10_ n11_ n12_; (try clear hb); (try clear hb2); (try clear hk); (try clear hi)))
         go_meet
         case rel => exact ⟨_, ((t321 != t293)), Bd_36, H', ⟨by have := HJ4.out; first | omega | exact Nat.le_refl _⟩, ⟨by (with_reducible repeat (first | apply Kd.R_alloc | apply Kd.R_drewN | apply Kd.R_drew)); exact Kd.R_mono HO_295000.out (fun _ hk => ⟨hk.1.1.1.1, ⟨hk.1.1.1.2.1, ⟨hk.1.1.1.2.2.1, ⟨hk.1.1.1.2.2.2.1, ⟨hk.1.1.1.2.2.2.2, ⟨hk.1.1.2, ⟨hk.1.2, hk.2⟩⟩⟩⟩⟩⟩⟩)⟩, ⟨by (with_reducible repeat (first | apply Kd.R_alloc | apply Kd.R_drewN | apply Kd.R_drew)); exact Kd.R_mono HO_295001.out (fun _ hk => ⟨hk.1.1.1.1, ⟨hk.1.1.1.2.1, ⟨hk.1.1.1.2.2.1, ⟨hk.1.1.1.2.2.2.1, ⟨hk.1.1.1.2.2.2.2, ⟨hk.1.1.2, ⟨hk.1.2, hk.2⟩⟩⟩⟩⟩⟩⟩)⟩, ⟨by (with_reducible repeat (first | apply Kd.R_alloc | apply Kd.R_drewN | apply Kd.R_drew)); exact Kd.R_mono HO_295002.out (fun _ hk => ⟨hk.1.1.1.1, ⟨hk.1.1.1.2.1, ⟨hk.1.1.1.2.2.1, ⟨hk.1.1.1.2.2.2.1, ⟨hk.1.1.1.2.2.2.2, ⟨hk.1.1.2, ⟨hk.1.2, hk.2⟩⟩⟩⟩⟩⟩⟩)⟩, ⟨by (with_reducible repeat (first | apply Kd.R_alloc | apply Kd.R_drewN | apply Kd.R_drew)); exact Kd.R_mono HO_306000.out (fun _ hk => ⟨hk.1.1.1.1, ⟨hk.1.1.1.2.1, ⟨hk.1.1.1.2.2.1, ⟨hk.1.1.1.2.2.2.1, ⟨hk.1.1.1.2.2.2.2, ⟨hk.1.1.2, ⟨hk.1.2, hk.2⟩⟩⟩⟩⟩⟩⟩)⟩, ⟨by (with_reducible repeat (first | apply Kd.R_alloc | apply Kd.R_drewN | apply Kd.R_drew)); exact Kd.R_mono HO_306001.out (fun _ hk => ⟨hk.1.1.1.1, ⟨hk.1.1.1.2.1, ⟨hk.1.1.1.2.2.1, ⟨hk.1.1.1.2.2.2.1, ⟨hk.1.1.1.2.2.2.2, ⟨hk.1.1.2, ⟨hk.1.2, hk.2⟩⟩⟩⟩⟩⟩⟩)⟩, ⟨by (with_reducible repeat (first | apply Kd.R_alloc | apply Kd.R_drewN | apply Kd.R_drew)); exact Kd.R_mono HO_306002.out (fun _ hk => ⟨hk.1.1.1.1, ⟨hk.1.1.1.2.1, ⟨hk.1.1.1.2.2.1, ⟨hk.1.1.1.2.2.2.1, ⟨hk.1.1.1.2.2.2.2, ⟨hk.1.1.2, ⟨hk.1.2, hk.2⟩⟩⟩⟩⟩⟩⟩)⟩, ⟨by (with_reducible repeat (first | apply Kd.R_alloc | apply Kd.R_drewN | apply Kd.R_drew)); exact Kd.R_mono HO314.out (fun _ hk => ⟨hk.1.1.1.1.1.2, ⟨hk.1.1.1.1.2, ⟨hk.1.1.1.2, ⟨hk.1.1.2, ⟨hk.1.2, ⟨hk.2, ⟨hk.1.1.1.1.1.1.1, hk.1.1.1.1.1.1.2⟩⟩⟩⟩⟩⟩⟩)⟩, ⟨by (with_reducible repeat (first | apply Kd.R_alloc | apply Kd.R_drewN | apply Kd.R_drew)); exact Kd.R_mono HO317.out (fun _ hk => ⟨hk.1.1.1.1.1.2, ⟨hk.1.1.1.1.2, ⟨hk.1.1.1.2, ⟨hk.1.1.2, ⟨hk.1.2, ⟨hk.2, ⟨hk.1.1.1.1.1.1.1, hk.1.1.1.1.1.1.2⟩⟩⟩⟩⟩⟩⟩)⟩, ⟨by (with_reducible repeat (first | apply Kd.R_alloc | apply Kd.R_drewN | apply Kd.R_drew)); exact Kd.R_mono HO320.out (fun _ hk => ⟨hk.1.1.1.1.1.2, ⟨hk.1.1.1.1.2, ⟨hk.1.1.1.2, ⟨hk.1.1.2, ⟨hk.1.2, ⟨hk.2, ⟨hk.1.1.1.1.1.1.1, hk.1.1.1.1.1.1.2⟩⟩⟩⟩⟩⟩⟩)⟩, ⟨by (with_reducible repeat (first | refine blk_drewN ?_ _ | refine blk_drew ?_ | refine blk_alloc ?_ _)); exact BK294.out⟩, ⟨by (with_reducible repeat (first | refine blk_drewN ?_ _ | refine blk_drew ?_ | refine blk_alloc ?_ _)); exact BK305.out⟩, ⟨by (with_reducible repeat (first | refine blk_drewN ?_ _ | refine blk_drew ?_ | refine blk_alloc ?_ _)); exact BK322.out⟩, ⟨by repeat (first | (with_reducible first | exact HB.out | apply below_alloc | apply pw_below_drewN | apply below_drew1 | refine below_set ?_ GE294.out | refine below_set ?_ GE305.out | refine below_set ?_ GE322.out) | exact HB.out)⟩⟩
        ·replace c55 := Bool.eq_false_iff.mpr c55
         subst c55
         have H1 : (laws_FnExactReadLayout.j1 kj4 t307 true t308 t309 t310) = some r := by rw [if_neg (show ¬ (false = true) by decide)] at H; exact H
         clear H
         have H := H1
         clear H1
         have H' := Aside0.mk H
         clear H
         have hnb62 := NB322_294.out
         have hnc62 := NB294_322.out
         have hnb63 := NB322_305.out
         have hnc63 := NB305_322.out
         have hcz64_0 : w47.cell? ⟨gb322, 0, none⟩ = some (.slice none 0 0) := (blk_cell BK322.out 0).trans rfl
         have hcz64_1 : w47.cell? ⟨gb322, 1, none⟩ = some (.slice none 0 0) := (blk_cell BK322.out 1).trans rfl
         have hcz64_2 : w47.cell? ⟨gb322, 2, none⟩ = some (.slice none 0 0) := (blk_cell BK322.out 2).trans rfl
         have hfz64_0 := blk_frozen BK322.out 0
         have hfz64_1 := blk_frozen BK322.out 1
         have hfz64_2 := blk_frozen BK322.out 2
         have hnb65 := NB294_305.out
         have hnc65 := NB305_294.out
         have hcz66_0 : w47.cell? ⟨gb294, 0, none⟩ = some (.slice Ao8 t284.length co8) := (blk_cell BK294.out 0).trans rfl
         have hcz66_1 : w47.cell? ⟨gb294, 1, none⟩ = some (.slice Ao10 t287.length co10) := (blk_cell BK294.out 1).trans rfl
         have hcz66_2 : w47.cell? ⟨gb294, 2, none⟩ = some (.slice Ao11 t290.length co11) := (blk_cell BK294.out 2).trans rfl
         have hfz66_0 := blk_frozen BK294.out 0
         have hfz66_1 := blk_frozen BK294.out 1
         have hfz66_2 := blk_frozen BK294.out 2
         go_wp2_with (first | ((with_reducible refine gate_callee (f := 44) rfl ?_); refine goesL_ (some 51) rfl rfl Try.func44 (by kernel_rfl) rfl #[.agg #[.slice Ao48 t312.length co48, .slice Ao52 t315.length co52, .slice Ao53 t318.length co53], .agg #[.slice Ao8 t284.length co8, .slice Ao10 t287.length co10, .slice Ao11 t290.length co11]] rfl Bd_0 ?_; (with_reducible refine (laws_eqLayout.calls kj4 _ _ t312 _ _ t315 _ _ t318 _ _ t284 _ _ t287 _ _ t290 false _ ?side1 ?side2 ?side3 ?side4 ?side5 ?side6 ?side7 ?side8 ?side9 ?side10 ?side11 ?side12 A54.out).mono ?_); (case side1 => refine (Kd.R_reads' (e := 3) (base := w.heap.size) (ok := fun k_ => (((((((some k_ ≠ (.slice Ao52 t315.length co52 : Value).ownBlock ∧ some k_ ≠ (.slice Ao53 t318.length co53 : Value).ownBlock) ∧ some k_ ≠ (.slice Ao8 t284.length co8 : Value).ownBlock) ∧ some k_ ≠ (.slice Ao10 t287.length co10 : Value).ownBlock) ∧ some k_ ≠ (.slice Ao11 t290.length co11 : Value).ownBlock) ∧ some k_ ≠ (.slice Ao14 t295.length co14 : Value).ownBlock) ∧ some k_ ≠ (.slice Ao17 t298.length co17 : Value).ownBlock) ∧ some k_ ≠ (.slice Ao18 t301.length co18 : Value).ownBlock)) (n := t312.length) (c := co48) ?_).2.2; exact Bd_17); (case side2 => exact (Kd.R_reads' HO314.out).2.1); (case side3 => refine (Kd.R_reads' (e := 3) (base := w.heap.size) (ok := fun k_ => (((((((some k_ ≠ (.slice Ao48 t312.length co48 : Value).ownBlock ∧ some k_ ≠ (.slice Ao53 t318.length co53 : Value).ownBlock) ∧ some k_ ≠ (.slice Ao8 t284.length co8 : Value).ownBlock) ∧ some k_ ≠ (.slice Ao10 t287.length co10 : Value).ownBlock) ∧ some k_ ≠ (.slice Ao11 t290.length co11 : Value).ownBlock) ∧ some k_ ≠ (.slice Ao14 t295.length co14 : Value).ownBlock) ∧ some k_ ≠ (.slice Ao17 t298.length co17 : Value).ownBlock) ∧ some k_ ≠ (.slice Ao18 t301.length co18 : Value).ownBlock)) (n := t315.length) (c := co52) ?_).2.2; exact Bd_18); (case side4 => exact (Kd.R_reads' HO317.out).2.1); (case side5 => refine (Kd.R_reads' (e := 3) (base := w.heap.size) (ok := fun k_ => (((((((some k_ ≠ (.slice Ao48 t312.length co48 : Value).ownBlock ∧ some k_ ≠ (.slice Ao52 t315.length co52 : Value).ownBlock) ∧ some k_ ≠ (.slice Ao8 t284.length co8 : Value).ownBlock) ∧ some k_ ≠ (.slice Ao10 t287.length co10 : Value).ownBlock) ∧ some k_ ≠ (.slice Ao11 t290.length co11 : Value).ownBlock) ∧ some k_ ≠ (.slice Ao14 t295.length co14 : Value).ownBlock) ∧ some k_ ≠ (.slice Ao17 t298.length co17 : Value).ownBlock) ∧ some k_ ≠ (.slice Ao18 t301.length co18 : Value).ownBlock)) (n := t318.length) (c := co53) ?_).2.2; exact Bd_19); (case side6 => exact (Kd.R_reads' HO320.out).2.1); (case side7 => refine (Kd.R_reads' (e := 3) (base := w.heap.size) (ok := fun k_ => ((((some k_ ≠ (.slice Ao10 t287.length co10 : Value).ownBlock ∧ (some k_ ≠ (.slice Ao11 t290.length co11 : Value).ownBlock ∧ (some k_ ≠ (.slice Ao14 t295.length co14 : Value).ownBlock ∧ (some k_ ≠ (.slice Ao17 t298.length co17 : Value).ownBlock ∧ some k_ ≠ (.slice Ao18 t301.length co18 : Value).ownBlock)))) ∧ some k_ ≠ (.slice Ao48 t312.length co48 : Value).ownBlock) ∧ some k_ ≠ (.slice Ao52 t315.length co52 : Value).ownBlock) ∧ some k_ ≠ (.slice Ao53 t318.length co53 : Value).ownBlock)) (n := t284.length) (c := co8) ?_).2.2; exact Bd_8); (case side8 => exact (Kd.R_reads' HO_295000.out).2.1); (case side9 => refine (Kd.R_reads' (e := 3) (base := w.heap.size) (ok := fun k_ => ((((some k_ ≠ (.slice Ao8 t284.length co8 : Value).ownBlock ∧ (some k_ ≠ (.slice Ao11 t290.length co11 : Value).ownBlock ∧ (some k_ ≠ (.slice Ao14 t295.length co14 : Value).ownBlock ∧ (some k_ ≠ (.slice Ao17 t298.length co17 : Value).ownBlock ∧ some k_ ≠ (.slice Ao18 t301.length co18 : Value).ownBlock)))) ∧ some k_ ≠ (.slice Ao48 t312.length co48 : Value).ownBlock) ∧ some k_ ≠ (.slice Ao52 t315.length co52 : Value).ownBlock) ∧ some k_ ≠ (.slice Ao53 t318.length co53 : Value).ownBlock)) (n := t287.length) (c := co10) ?_).2.2; exact Bd_9); (case side10 => exact (Kd.R_reads' HO_295001.out).2.1); (case side11 => refine (Kd.R_reads' (e := 3) (base := w.heap.size) (ok := fun k_ => ((((some k_ ≠ (.slice Ao8 t284.length co8 : Value).ownBlock ∧ (some k_ ≠ (.slice Ao10 t287.length co10 : Value).ownBlock ∧ (some k_ ≠ (.slice Ao14 t295.length co14 : Value).ownBlock ∧ (some k_ ≠ (.slice Ao17 t298.length co17 : Value).ownBlock ∧ some k_ ≠ (.slice Ao18 t301.length co18 : Value).ownBlock)))) ∧ some k_ ≠ (.slice Ao48 t312.length co48 : Value).ownBlock) ∧ some k_ ≠ (.slice Ao52 t315.length co52 : Value).ownBlock) ∧ some k_ ≠ (.slice Ao53 t318.length co53 : Value).ownBlock)) (n := t290.length) (c := co11) ?_).2.2; exact Bd_10); (case side12 => exact (Kd.R_reads' HO_295002.out).2.1); rintro e w67 ⟨rfl, hb⟩; refine ⟨_, rfl, ?_⟩; have n0_ := Aside0.mk (Kd.R_below Bd_8 hb); have n1_ := Aside0.mk (Kd.R_below Bd_9 hb); have n2_ := Aside0.mk (Kd.R_below Bd_10 hb); have n3_ := Aside0.mk (Kd.R_below Bd_40 hb); have n4_ := Aside0.mk (Kd.R_below Bd_41 hb); have n5_ := Aside0.mk (Kd.R_below Bd_42 hb); have n6_ := Aside0.mk (Kd.R_below Bd_17 hb); have n7_ := Aside0.mk (Kd.R_below Bd_18 hb); have n8_ := Aside0.mk (Kd.R_below Bd_19 hb); have n9_ := Aside0.mk (blk_below (g := gb294) (o := .cells #[.slice Ao8 t284.length co8, .slice Ao10 t287.length co10, .slice Ao11 t290.length co11] 39 (0, 0)) Bd_38 hb); have n10_ := Aside0.mk (blk_below (g := gb305) (o := .cells #[.slice Ao14 t295.length co14, .slice Ao17 t298.length co17, .slice Ao18 t301.length co18] 39 (0, 0)) Bd_39 hb); have n11_ := Aside0.mk (blk_below (g := gb322) (o := .cells #[.slice Ao48 t312.length co48, .slice Ao52 t315.length co52, .slice Ao53 t318.length co53] 39 (0, 0)) Bd_33 hb); have n12_ := Aside0.mk (below_step Bd_30 hb); clear HO_295000; clear HO_295001; clear HO_295002; clear HO_306000; clear HO_306001; clear HO_306002; clear HO314; clear HO317; clear HO320; clear BK294; clear BK305; clear BK322; clear HB; have HO_295000 := n0_; have HO_295001 := n1_; have HO_295002 := n2_; have HO_306000 := n3_; have HO_306001 := n4_; have HO_306002 := n5_; have HO314 := n6_; have HO317 := n7_; have HO320 := n8_; have BK294 := n9_; have BK305 := n10_; have BK322 := n11_; have HB := n12_; clear n0_ n1_ n2_ n3_ n4_ n5_ n6_ n7_ n8_ n9_ n10_ n11_ n12_; (try clear hb); (try clear hb2); (try clear hk); (try clear hi)))
         go_meet
         case rel => exact ⟨_, (true), Bd_36, H', ⟨by have := HJ4.out; first | omega | exact Nat.le_refl _⟩, ⟨by (with_reducible repeat (first | apply Kd.R_alloc | apply Kd.R_drewN | apply Kd.R_drew)); exact Kd.R_mono HO_295000.out (fun _ hk => ⟨hk.1.1.1.1, ⟨hk.1.1.1.2.1, ⟨hk.1.1.1.2.2.1, ⟨hk.1.1.1.2.2.2.1, ⟨hk.1.1.1.2.2.2.2, ⟨hk.1.1.2, ⟨hk.1.2, hk.2⟩⟩⟩⟩⟩⟩⟩)⟩, ⟨by (with_reducible repeat (first | apply Kd.R_alloc | apply Kd.R_drewN | apply Kd.R_drew)); exact Kd.R_mono HO_295001.out (fun _ hk => ⟨hk.1.1.1.1, ⟨hk.1.1.1.2.1, ⟨hk.1.1.1.2.2.1, ⟨hk.1.1.1.2.2.2.1, ⟨hk.1.1.1.2.2.2.2, ⟨hk.1.1.2, ⟨hk.1.2, hk.2⟩⟩⟩⟩⟩⟩⟩)⟩, ⟨by (with_reducible repeat (first | apply Kd.R_alloc | apply Kd.R_drewN | apply Kd.R_drew)); exact Kd.R_mono HO_295002.out (fun _ hk => ⟨hk.1.1.1.1, ⟨hk.1.1.1.2.1, ⟨hk.1.1.1.2.2.1, ⟨hk.1.1.1.2.2.2.1, ⟨hk.1.1.1.2.2.2.2, ⟨hk.1.1.2, ⟨hk.1.2, hk.2⟩⟩⟩⟩⟩⟩⟩)⟩, ⟨by (with_reducible repeat (first | apply Kd.R_alloc | apply Kd.R_drewN | apply Kd.R_drew)); exact Kd.R_mono HO_306000.out (fun _ hk => ⟨hk.1.1.1.1, ⟨hk.1.1.1.2.1, ⟨hk.1.1.1.2.2.1, ⟨hk.1.1.1.2.2.2.1, ⟨hk.1.1.1.2.2.2.2, ⟨hk.1.1.2, ⟨hk.1.2, hk.2⟩⟩⟩⟩⟩⟩⟩)⟩, ⟨by (with_reducible repeat (first | apply Kd.R_alloc | apply Kd.R_drewN | apply Kd.R_drew)); exact Kd.R_mono HO_306001.out (fun _ hk => ⟨hk.1.1.1.1, ⟨hk.1.1.1.2.1, ⟨hk.1.1.1.2.2.1, ⟨hk.1.1.1.2.2.2.1, ⟨hk.1.1.1.2.2.2.2, ⟨hk.1.1.2, ⟨hk.1.2, hk.2⟩⟩⟩⟩⟩⟩⟩)⟩, ⟨by (with_reducible repeat (first | apply Kd.R_alloc | apply Kd.R_drewN | apply Kd.R_drew)); exact Kd.R_mono HO_306002.out (fun _ hk => ⟨hk.1.1.1.1, ⟨hk.1.1.1.2.1, ⟨hk.1.1.1.2.2.1, ⟨hk.1.1.1.2.2.2.1, ⟨hk.1.1.1.2.2.2.2, ⟨hk.1.1.2, ⟨hk.1.2, hk.2⟩⟩⟩⟩⟩⟩⟩)⟩, ⟨by (with_reducible repeat (first | apply Kd.R_alloc | apply Kd.R_drewN | apply Kd.R_drew)); exact Kd.R_mono HO314.out (fun _ hk => ⟨hk.1.1.1.1.1.2, ⟨hk.1.1.1.1.2, ⟨hk.1.1.1.2, ⟨hk.1.1.2, ⟨hk.1.2, ⟨hk.2, ⟨hk.1.1.1.1.1.1.1, hk.1.1.1.1.1.1.2⟩⟩⟩⟩⟩⟩⟩)⟩, ⟨by (with_reducible repeat (first | apply Kd.R_alloc | apply Kd.R_drewN | apply Kd.R_drew)); exact Kd.R_mono HO317.out (fun _ hk => ⟨hk.1.1.1.1.1.2, ⟨hk.1.1.1.1.2, ⟨hk.1.1.1.2, ⟨hk.1.1.2, ⟨hk.1.2, ⟨hk.2, ⟨hk.1.1.1.1.1.1.1, hk.1.1.1.1.1.1.2⟩⟩⟩⟩⟩⟩⟩)⟩, ⟨by (with_reducible repeat (first | apply Kd.R_alloc | apply Kd.R_drewN | apply Kd.R_drew)); exact Kd.R_mono HO320.out (fun _ hk => ⟨hk.1.1.1.1.1.2, ⟨hk.1.1.1.1.2, ⟨hk.1.1.1.2, ⟨hk.1.1.2, ⟨hk.1.2, ⟨hk.2, ⟨hk.1.1.1.1.1.1.1, hk.1.1.1.1.1.1.2⟩⟩⟩⟩⟩⟩⟩)⟩, ⟨by (with_reducible repeat (first | refine blk_drewN ?_ _ | refine blk_drew ?_ | refine blk_alloc ?_ _)); exact BK294.out⟩, ⟨by (with_reducible repeat (first | refine blk_drewN ?_ _ | refine blk_drew ?_ | refine blk_alloc ?_ _)); exact BK305.out⟩, ⟨by (with_reducible repeat (first | refine blk_drewN ?_ _ | refine blk_drew ?_ | refine blk_alloc ?_ _)); exact BK322.out⟩, ⟨by repeat (first | (with_reducible first | exact HB.out | apply below_alloc | apply pw_below_drewN | apply below_drew1 | refine below_set ?_ GE294.out | refine below_set ?_ GE305.out | refine below_set ?_ GE322.out) | exact HB.out)⟩⟩
       case rest =>
        clear HC40
        try clear c1; try clear c2; try clear c2b0; try clear c2b1; try clear p2; try clear c3; try clear c4; try clear c5; try clear c6; try clear c8; try clear c15; try clear c20; try clear c21; try clear c24; try clear c25; try clear c29; try clear c32; try clear c32b0; try clear c33; try clear c38; try clear c38b0; try clear c38b1; try clear c41; try clear c43; try clear c44; try clear c45; try clear c46; try clear c49; try clear c50; try clear c55; try clear c56; try clear c57; try clear c59; try clear c62; try clear c63; try clear c65; try clear hcz16_0; try clear hcz16_1; try clear hcz16_2; try clear hcz22_0; try clear hcz22_1; try clear hcz22_2; try clear hcz23_0; try clear hcz23_1; try clear hcz23_2; try clear hcz26_0; try clear hcz26_1; try clear hcz26_2; try clear hcz27_0; try clear hcz27_1; try clear hcz27_2; try clear hcz34_0; try clear hcz34_1; try clear hcz34_2; try clear hcz36_0; try clear hcz36_1; try clear hcz36_2; try clear hcz42_0; try clear hcz42_1; try clear hcz42_2; try clear hcz44_0; try clear hcz44_1; try clear hcz44_2; try clear hcz51_0; try clear hcz51_1; try clear hcz51_2; try clear hcz58_0; try clear hcz58_1; try clear hcz58_2; try clear hcz60_0; try clear hcz60_1; try clear hcz60_2; try clear hcz64_0; try clear hcz64_1; try clear hcz64_2; try clear hcz66_0; try clear hcz66_1; try clear hcz66_2; try clear hcz9_0; try clear hcz9_1; try clear hcz9_2; try clear hfz16_0; try clear hfz16_1; try clear hfz16_2; try clear hfz22_0; try clear hfz22_1; try clear hfz22_2; try clear hfz23_0; try clear hfz23_1; try clear hfz23_2; try clear hfz26_0; try clear hfz26_1; try clear hfz26_2; try clear hfz27_0; try clear hfz27_1; try clear hfz27_2; try clear hfz34_0; try clear hfz34_1; try clear hfz34_2; try clear hfz36_0; try clear hfz36_1; try clear hfz36_2; try clear hfz42_0; try clear hfz42_1; try clear hfz42_2; try clear hfz44_0; try clear hfz44_1; try clear hfz44_2; try clear hfz51_0; try clear hfz51_1; try clear hfz51_2; try clear hfz58_0; try clear hfz58_1; try clear hfz58_2; try clear hfz60_0; try clear hfz60_1; try clear hfz60_2; try clear hfz64_0; try clear hfz64_1; try clear hfz64_2; try clear hfz66_0; try clear hfz66_1; try clear hfz66_2; try clear hfz9_0; try clear hfz9_1; try clear hfz9_2; try clear p2
        obtain ⟨kq, x57_39, rfl, HA, HJ39, HO_295000, HO_295001, HO_295002, HO_306000, HO_306001, HO_306002, HO_323000, HO_323001, HO_323002, BK294, BK305, BK322, HB⟩ := hcut
        have hl306000_39 := (Kd.R_reads' HO_306000.out).1
        rw [hl306000_39] at HO_306000
        (try simp only [hl306000_39])
        (try simp only [hl306000_39] at BK294)
        (try simp only [hl306000_39] at BK305)
        (try simp only [hl306000_39] at BK322)
        (try simp only [hl306000_39] at HO_295000)
        (try simp only [hl306000_39] at HO_295001)
        (try simp only [hl306000_39] at HO_295002)
        (try simp only [hl306000_39] at HO_306001)
        (try simp only [hl306000_39] at HO_306002)
        (try simp only [hl306000_39] at HO_323000)
        (try simp only [hl306000_39] at HO_323001)
        (try simp only [hl306000_39] at HO_323002)
        have hl306001_39 := (Kd.R_reads' HO_306001.out).1
        rw [hl306001_39] at HO_306001
        (try simp only [hl306001_39])
        (try simp only [hl306001_39] at BK294)
        (try simp only [hl306001_39] at BK305)
        (try simp only [hl306001_39] at BK322)
        (try simp only [hl306001_39] at HO_295000)
        (try simp only [hl306001_39] at HO_295001)
        (try simp only [hl306001_39] at HO_295002)
        (try simp only [hl306001_39] at HO_306000)
        (try simp only [hl306001_39] at HO_306002)
        (try simp only [hl306001_39] at HO_323000)
        (try simp only [hl306001_39] at HO_323001)
        (try simp only [hl306001_39] at HO_323002)
        have hl306002_39 := (Kd.R_reads' HO_306002.out).1
        rw [hl306002_39] at HO_306002
        (try simp only [hl306002_39])
        (try simp only [hl306002_39] at BK294)
        (try simp only [hl306002_39] at BK305)
        (try simp only [hl306002_39] at BK322)
        (try simp only [hl306002_39] at HO_295000)
        (try simp only [hl306002_39] at HO_295001)
        (try simp only [hl306002_39] at HO_295002)
        (try simp only [hl306002_39] at HO_306000)
        (try simp only [hl306002_39] at HO_306001)
        (try simp only [hl306002_39] at HO_323000)
        (try simp only [hl306002_39] at HO_323001)
        (try simp only [hl306002_39] at HO_323002)
        cases kq with
        | zero => exact absurd HA.out (by simp [laws_FnExactReadLayout.j1])
        | succ kj39 =>
         have H := HA.out
         clear HA
         simp only [laws_FnExactReadLayout.j1] at H
         by_cases c68 : x57_39 = true
         ·subst c68
          have H1 : (some false) = some r := by rw [if_pos rfl] at H; exact H
          clear H
          have H := H1
          clear H1
          obtain rfl := Option.some.inj H
          go_wp2
          go_ret
          exact ⟨by first | rfl | (simp [errW_none, errW_some] <;> rfl) | (simp [*, errW_none, errW_some] <;> rfl), by repeat (first | (with_reducible first | exact HB.out | apply below_alloc | apply pw_below_drewN | apply below_drew1 | refine below_set ?_ GE294.out | refine below_set ?_ GE305.out | refine below_set ?_ GE322.out) | exact HB.out)⟩
         ·replace c68 := Bool.eq_false_iff.mpr c68
          subst c68
          have H1 : ((laws_heldLayout.f kj39 t308 t309 t310 1).bind fun t324 => (if t324 < 0 then (some false) else (if t324 = t307 then (some true) else (some false)))) = some r := by rw [if_neg (show ¬ (false = true) by decide)] at H; exact H
          clear H
          have H := H1
          clear H1
          replace H := Option.bind_eq_some_iff.mp H
          obtain ⟨t324, A690, H⟩ := H
          replace H : (if t324 < 0 then (some false) else (if t324 = t307 then (some true) else (some false))) = some r := H
          have A69 := Aside0.mk A690
          clear A690
          by_cases c70 : t324 < 0
          ·rw [if_pos c70] at H
           have c70b0 : decide (t324 < 0) = true := decide_eq_true c70
           clear c70
           obtain rfl := Option.some.inj H
           have hnb71 := NB305_294.out
           have hnc71 := NB294_305.out
           have hnb72 := NB305_322.out
           have hnc72 := NB322_305.out
           have hcz73_0 : wc.cell? ⟨gb305, 0, none⟩ = some (.slice Ao14 t308.length co14) := (blk_cell BK305.out 0).trans rfl
           have hcz73_1 : wc.cell? ⟨gb305, 1, none⟩ = some (.slice Ao17 t309.length co17) := (blk_cell BK305.out 1).trans rfl
           have hcz73_2 : wc.cell? ⟨gb305, 2, none⟩ = some (.slice Ao18 t310.length co18) := (blk_cell BK305.out 2).trans rfl
           have hfz73_0 := blk_frozen BK305.out 0
           have hfz73_1 := blk_frozen BK305.out 1
           have hfz73_2 := blk_frozen BK305.out 2
           go_wp2_with (first | ((with_reducible refine gate_callee (f := 46) rfl ?_); refine goesL_ (some 60) rfl rfl Try.func46 (by kernel_rfl) rfl #[.agg #[.slice Ao14 t308.length co14, .slice Ao17 t309.length co17, .slice Ao18 t310.length co18], .int .i64 1] rfl Bd_0 ?_; (with_reducible refine (laws_heldLayout.calls kj39 _ _ t308 _ _ t309 _ _ t310 1 t324 _ ?side1 ?side2 ?side3 ?side4 ?side5 ?side6 A69.out).mono ?_); (case side1 => repeat (first | exact (Kd.R_reads' HO_306000.out).2.2 | (with_reducible refine Kd.C_alloc ?_ _) | (with_reducible refine Kd.C_drewN ?_ _) | (with_reducible refine Kd.C_drew ?_))); (case side2 => exact (Kd.R_reads' HO_306000.out).2.1); (case side3 => repeat (first | exact (Kd.R_reads' HO_306001.out).2.2 | (with_reducible refine Kd.C_alloc ?_ _) | (with_reducible refine Kd.C_drewN ?_ _) | (with_reducible refine Kd.C_drew ?_))); (case side4 => exact (Kd.R_reads' HO_306001.out).2.1); (case side5 => repeat (first | exact (Kd.R_reads' HO_306002.out).2.2 | (with_reducible refine Kd.C_alloc ?_ _) | (with_reducible refine Kd.C_drewN ?_ _) | (with_reducible refine Kd.C_drew ?_))); (case side6 => exact (Kd.R_reads' HO_306002.out).2.1); rintro e w74 ⟨rfl, hb⟩; refine ⟨_, rfl, ?_⟩; have n0_ := Aside0.mk (Kd.R_below Bd_23 hb); have n1_ := Aside0.mk (Kd.R_below Bd_24 hb); have n2_ := Aside0.mk (Kd.R_below Bd_25 hb); have n3_ := Aside0.mk (Kd.R_below Bd_26 hb); have n4_ := Aside0.mk (Kd.R_below Bd_27 hb); have n5_ := Aside0.mk (Kd.R_below Bd_28 hb); have n6_ := Aside0.mk (Kd.R_below Bd_46 hb); have n7_ := Aside0.mk (Kd.R_below Bd_47 hb); have n8_ := Aside0.mk (Kd.R_below Bd_48 hb); have n9_ := Aside0.mk (blk_below (g := gb294) (o := .cells #[.slice Ao8 t284.length co8, .slice Ao10 t287.length co10, .slice Ao11 t290.length co11] 39 (0, 0)) Bd_5 hb); have n10_ := Aside0.mk (blk_below (g := gb305) (o := .cells #[.slice Ao14 t308.length co14, .slice Ao17 t309.length co17, .slice Ao18 t310.length co18] 39 (0, 0)) Bd_6 hb); have n11_ := Aside0.mk (blk_below (g := gb322) (o := .cells #[.slice Ao48 t312.length co48, .slice Ao52 t315.length co52, .slice Ao53 t318.length co53] 39 (0, 0)) Bd_45 hb); have n12_ := Aside0.mk (below_step Bd_30 hb); clear HO_295000; clear HO_295001; clear HO_295002; clear HO_306000; clear HO_306001; clear HO_306002; clear HO_323000; clear HO_323001; clear HO_323002; clear BK294; clear BK305; clear BK322; clear HB; have HO_295000 := n0_; have HO_295001 := n1_; have HO_295002 := n2_; have HO_306000 := n3_; have HO_306001 := n4_; have HO_306002 := n5_; have HO_323000 := n6_; have HO_323001 := n7_; have HO_323002 := n8_; have BK294 := n9_; have BK305 := n10_; have BK322 := n11_; have HB := n12_; clear n0_ n1_ n2_ n3_ n4_ n5_ n6_ n7_ n8_ n9_ n10_ n11_ n12_; (try clear hb); (try clear hb2); (try clear hk); (try clear hi)))
           go_ret
           exact ⟨by first | rfl | (simp [errW_none, errW_some] <;> rfl) | (simp [*, errW_none, errW_some] <;> rfl), by repeat (first | (with_reducible first | exact HB.out | apply below_alloc | apply pw_below_drewN | apply below_drew1 | refine below_set ?_ GE294.out | refine below_set ?_ GE305.out | refine below_set ?_ GE322.out) | exact HB.out)⟩
          ·rw [if_neg c70] at H
           have c70b0 : decide (t324 < 0) = false := decide_eq_false c70
           clear c70
           by_cases c75 : t324 = t307
           ·rw [if_pos c75] at H
            have c75b0 : (t324 == t307) = true := beq_iff_eq.mpr c75
            have c75b1 : (t324 != t307) = false := bne_eq_false_iff_eq.mpr c75
            clear c75
            obtain rfl := Option.some.inj H
            have hnb76 := NB305_294.out
            have hnc76 := NB294_305.out
            have hnb77 := NB305_322.out
            have hnc77 := NB322_305.out
            have hcz78_0 : wc.cell? ⟨gb305, 0, none⟩ = some (.slice Ao14 t308.length co14) := (blk_cell BK305.out 0).trans rfl
            have hcz78_1 : wc.cell? ⟨gb305, 1, none⟩ = some (.slice Ao17 t309.length co17) := (blk_cell BK305.out 1).trans rfl
            have hcz78_2 : wc.cell? ⟨gb305, 2, none⟩ = some (.slice Ao18 t310.length co18) := (blk_cell BK305.out 2).trans rfl
            have hfz78_0 := blk_frozen BK305.out 0
            have hfz78_1 := blk_frozen BK305.out 1
            have hfz78_2 := blk_frozen BK305.out 2
            go_wp2_with (first | ((with_reducible refine gate_callee (f := 46) rfl ?_); refine goesL_ (some 60) rfl rfl Try.func46 (by kernel_rfl) rfl #[.agg #[.slice Ao14 t308.length co14, .slice Ao17 t309.length co17, .slice Ao18 t310.length co18], .int .i64 1] rfl Bd_0 ?_; (with_reducible refine (laws_heldLayout.calls kj39 _ _ t308 _ _ t309 _ _ t310 1 t324 _ ?side1 ?side2 ?side3 ?side4 ?side5 ?side6 A69.out).mono ?_); (case side1 => repeat (first | exact (Kd.R_reads' HO_306000.out).2.2 | (with_reducible refine Kd.C_alloc ?_ _) | (with_reducible refine Kd.C_drewN ?_ _) | (with_reducible refine Kd.C_drew ?_))); (case side2 => exact (Kd.R_reads' HO_306000.out).2.1); (case side3 => repeat (first | exact (Kd.R_reads' HO_306001.out).2.2 | (with_reducible refine Kd.C_alloc ?_ _) | (with_reducible refine Kd.C_drewN ?_ _) | (with_reducible refine Kd.C_drew ?_))); (case side4 => exact (Kd.R_reads' HO_306001.out).2.1); (case side5 => repeat (first | exact (Kd.R_reads' HO_306002.out).2.2 | (with_reducible refine Kd.C_alloc ?_ _) | (with_reducible refine Kd.C_drewN ?_ _) | (with_reducible refine Kd.C_drew ?_))); (case side6 => exact (Kd.R_reads' HO_306002.out).2.1); rintro e w79 ⟨rfl, hb⟩; refine ⟨_, rfl, ?_⟩; have n0_ := Aside0.mk (Kd.R_below Bd_23 hb); have n1_ := Aside0.mk (Kd.R_below Bd_24 hb); have n2_ := Aside0.mk (Kd.R_below Bd_25 hb); have n3_ := Aside0.mk (Kd.R_below Bd_26 hb); have n4_ := Aside0.mk (Kd.R_below Bd_27 hb); have n5_ := Aside0.mk (Kd.R_below Bd_28 hb); have n6_ := Aside0.mk (Kd.R_below Bd_46 hb); have n7_ := Aside0.mk (Kd.R_below Bd_47 hb); have n8_ := Aside0.mk (Kd.R_below Bd_48 hb); have n9_ := Aside0.mk (blk_below (g := gb294) (o := .cells #[.slice Ao8 t284.length co8, .slice Ao10 t287.length co10, .slice Ao11 t290.length co11] 39 (0, 0)) Bd_5 hb); have n10_ := Aside0.mk (blk_below (g := gb305) (o := .cells #[.slice Ao14 t308.length co14, .slice Ao17 t309.length co17, .slice Ao18 t310.length co18] 39 (0, 0)) Bd_6 hb); have n11_ := Aside0.mk (blk_below (g := gb322) (o := .cells #[.slice Ao48 t312.length co48, .slice Ao52 t315.length co52, .slice Ao53 t318.length co53] 39 (0, 0)) Bd_45 hb); have n12_ := Aside0.mk (below_step Bd_30 hb); clear HO_295000; clear HO_295001; clear HO_295002; clear HO_306000; clear HO_306001; clear HO_306002; clear HO_323000; clear HO_323001; clear HO_323002; clear BK294; clear BK305; clear BK322; clear HB; have HO_295000 := n0_; have HO_295001 := n1_; have HO_295002 := n2_; have HO_306000 := n3_; have HO_306001 := n4_; have HO_306002 := n5_; have HO_323000 := n6_; have HO_323001 := n7_; have HO_323002 := n8_; have BK294 := n9_; have BK305 := n10_; have BK322 := n11_; have HB := n12_; clear n0_ n1_ n2_ n3_ n4_ n5_ n6_ n7_ n8_ n9_ n10_ n11_ n12_; (try clear hb); (try clear hb2); (try clear hk); (try clear hi)))
            go_ret
            exact ⟨by first | rfl | (simp [errW_none, errW_some] <;> rfl) | (simp [*, errW_none, errW_some] <;> rfl), by repeat (first | (with_reducible first | exact HB.out | apply below_alloc | apply pw_below_drewN | apply below_drew1 | refine below_set ?_ GE294.out | refine below_set ?_ GE305.out | refine below_set ?_ GE322.out) | exact HB.out)⟩
           ·rw [if_neg c75] at H
            have c75b0 : (t324 == t307) = false := beq_eq_false_iff_ne.mpr c75
            have c75b1 : (t324 != t307) = true := bne_iff_ne.mpr c75
            obtain rfl := Option.some.inj H
            have hnb80 := NB305_294.out
            have hnc80 := NB294_305.out
            have hnb81 := NB305_322.out
            have hnc81 := NB322_305.out
            have hcz82_0 : wc.cell? ⟨gb305, 0, none⟩ = some (.slice Ao14 t308.length co14) := (blk_cell BK305.out 0).trans rfl
            have hcz82_1 : wc.cell? ⟨gb305, 1, none⟩ = some (.slice Ao17 t309.length co17) := (blk_cell BK305.out 1).trans rfl
            have hcz82_2 : wc.cell? ⟨gb305, 2, none⟩ = some (.slice Ao18 t310.length co18) := (blk_cell BK305.out 2).trans rfl
            have hfz82_0 := blk_frozen BK305.out 0
            have hfz82_1 := blk_frozen BK305.out 1
            have hfz82_2 := blk_frozen BK305.out 2
            go_wp2_with (first | ((with_reducible refine gate_callee (f := 46) rfl ?_); refine goesL_ (some 60) rfl rfl Try.func46 (by kernel_rfl) rfl #[.agg #[.slice Ao14 t308.length co14, .slice Ao17 t309.length co17, .slice Ao18 t310.length co18], .int .i64 1] rfl Bd_0 ?_; (with_reducible refine (laws_heldLayout.calls kj39 _ _ t308 _ _ t309 _ _ t310 1 t324 _ ?side1 ?side2 ?side3 ?side4 ?side5 ?side6 A69.out).mono ?_); (case side1 => repeat (first | exact (Kd.R_reads' HO_306000.out).2.2 | (with_reducible refine Kd.C_alloc ?_ _) | (with_reducible refine Kd.C_drewN ?_ _) | (with_reducible refine Kd.C_drew ?_))); (case side2 => exact (Kd.R_reads' HO_306000.out).2.1); (case side3 => repeat (first | exact (Kd.R_reads' HO_306001.out).2.2 | (with_reducible refine Kd.C_alloc ?_ _) | (with_reducible refine Kd.C_drewN ?_ _) | (with_reducible refine Kd.C_drew ?_))); (case side4 => exact (Kd.R_reads' HO_306001.out).2.1); (case side5 => repeat (first | exact (Kd.R_reads' HO_306002.out).2.2 | (with_reducible refine Kd.C_alloc ?_ _) | (with_reducible refine Kd.C_drewN ?_ _) | (with_reducible refine Kd.C_drew ?_))); (case side6 => exact (Kd.R_reads' HO_306002.out).2.1); rintro e w83 ⟨rfl, hb⟩; refine ⟨_, rfl, ?_⟩; have n0_ := Aside0.mk (Kd.R_below Bd_23 hb); have n1_ := Aside0.mk (Kd.R_below Bd_24 hb); have n2_ := Aside0.mk (Kd.R_below Bd_25 hb); have n3_ := Aside0.mk (Kd.R_below Bd_26 hb); have n4_ := Aside0.mk (Kd.R_below Bd_27 hb); have n5_ := Aside0.mk (Kd.R_below Bd_28 hb); have n6_ := Aside0.mk (Kd.R_below Bd_46 hb); have n7_ := Aside0.mk (Kd.R_below Bd_47 hb); have n8_ := Aside0.mk (Kd.R_below Bd_48 hb); have n9_ := Aside0.mk (blk_below (g := gb294) (o := .cells #[.slice Ao8 t284.length co8, .slice Ao10 t287.length co10, .slice Ao11 t290.length co11] 39 (0, 0)) Bd_5 hb); have n10_ := Aside0.mk (blk_below (g := gb305) (o := .cells #[.slice Ao14 t308.length co14, .slice Ao17 t309.length co17, .slice Ao18 t310.length co18] 39 (0, 0)) Bd_6 hb); have n11_ := Aside0.mk (blk_below (g := gb322) (o := .cells #[.slice Ao48 t312.length co48, .slice Ao52 t315.length co52, .slice Ao53 t318.length co53] 39 (0, 0)) Bd_45 hb); have n12_ := Aside0.mk (below_step Bd_30 hb); clear HO_295000; clear HO_295001; clear HO_295002; clear HO_306000; clear HO_306001; clear HO_306002; clear HO_323000; clear HO_323001; clear HO_323002; clear BK294; clear BK305; clear BK322; clear HB; have HO_295000 := n0_; have HO_295001 := n1_; have HO_295002 := n2_; have HO_306000 := n3_; have HO_306001 := n4_; have HO_306002 := n5_; have HO_323000 := n6_; have HO_323001 := n7_; have HO_323002 := n8_; have BK294 := n9_; have BK305 := n10_; have BK322 := n11_; have HB := n12_; clear n0_ n1_ n2_ n3_ n4_ n5_ n6_ n7_ n8_ n9_ n10_ n11_ n12_; (try clear hb); (try clear hb2); (try clear hk); (try clear hi)))
            go_ret
            exact ⟨by first | rfl | (simp [errW_none, errW_some] <;> rfl) | (simp [*, errW_none, errW_some] <;> rfl), by repeat (first | (with_reducible first | exact HB.out | apply below_alloc | apply pw_below_drewN | apply below_drew1 | refine below_set ?_ GE294.out | refine below_set ?_ GE305.out | refine below_set ?_ GE322.out) | exact HB.out)⟩
      ·rw [if_neg c38] at H
       have c38b0 : (t311 == t307) = false := beq_eq_false_iff_ne.mpr c38
       have c38b1 : (t311 != t307) = true := bne_iff_ne.mpr c38
       obtain rfl := Option.some.inj H
       have hnb84 := NB305_294.out
       have hnc84 := NB294_305.out
       have hcz85_0 : wc.cell? ⟨gb305, 0, none⟩ = some (.slice Ao14 t295.length co14) := (blk_cell BK305.out 0).trans rfl
       have hcz85_1 : wc.cell? ⟨gb305, 1, none⟩ = some (.slice Ao17 t298.length co17) := (blk_cell BK305.out 1).trans rfl
       have hcz85_2 : wc.cell? ⟨gb305, 2, none⟩ = some (.slice Ao18 t301.length co18) := (blk_cell BK305.out 2).trans rfl
       have hfz85_0 := blk_frozen BK305.out 0
       have hfz85_1 := blk_frozen BK305.out 1
       have hfz85_2 := blk_frozen BK305.out 2
       go_wp2_with (first | ((with_reducible refine gate_callee (f := 45) rfl ?_); refine goesL_ (some 35) rfl rfl Try.func45 (by kernel_rfl) rfl #[.agg #[.slice Ao14 t295.length co14, .slice Ao17 t298.length co17, .slice Ao18 t301.length co18], .int .i64 1] rfl Bd_0 ?_; (with_reducible refine (laws_markLayout.calls kj4 (fun k_ => some k_ = (.slice Ao14 t295.length co14 : Value).ownBlock) (.slice Ao14 t295.length co14) t295 (fun k_ => some k_ = (.slice Ao17 t298.length co17 : Value).ownBlock) (.slice Ao17 t298.length co17) t298 (fun k_ => some k_ = (.slice Ao18 t301.length co18 : Value).ownBlock) (.slice Ao18 t301.length co18) t301 1 t307 t308 t309 t310 w _ ?side1 ?side2 ?side3 ?side4 ?side5 ?side6 ?side7 ?side8 ?side9 ?side10 A30.out).mono ?_); (case side1 => repeat (first | (with_reducible first | exact HB.out | apply below_alloc | apply pw_below_drewN | apply below_drew1 | refine below_set ?_ GE294.out | refine below_set ?_ GE305.out) | exact HB.out)); (case side2 => exact Kd.R_tight rfl HO_306000.out); (case side3 => exact fun k_ e_ => (HO_306000.out.1 k_ e_.symm).2.2.2.1); (case side4 => exact fun k_ e_ => (HO_306000.out.1 k_ e_.symm).2.2.2.2); (case side5 => exact Kd.R_tight rfl HO_306001.out); (case side6 => exact fun k_ e_ => (HO_306001.out.1 k_ e_.symm).2.2.2.1); (case side7 => exact fun k_ e_ => (HO_306001.out.1 k_ e_.symm).2.2.2.2); (case side8 => exact Kd.R_tight rfl HO_306002.out); (case side9 => exact fun k_ e_ => (HO_306002.out.1 k_ e_.symm).2.2.2.1); (case side10 => exact fun k_ e_ => (HO_306002.out.1 k_ e_.symm).2.2.2.2); rintro e w86 ⟨rfl, hy0, hy1, hy2, hb, hkp⟩; refine ⟨_, rfl, ?_⟩; have n0_ := Aside0.mk (Kd.R_mono (ok' := fun k_ => some k_ ≠ (.slice Ao10 t287.length co10 : Value).ownBlock ∧ some k_ ≠ (.slice Ao11 t290.length co11 : Value).ownBlock ∧ some k_ ≠ (.slice Ao14 t295.length co14 : Value).ownBlock ∧ some k_ ≠ (.slice Ao17 t298.length co17 : Value).ownBlock ∧ some k_ ≠ (.slice Ao18 t301.length co18 : Value).ownBlock) (Kd.R_keptB (HO_295000.out) hkp (fun k_ hk_ hs_ => Or.elim hs_ (fun e_ => (hk_.2.2.1) e_) (fun e_ => Or.elim e_ (fun e_ => (hk_.2.2.2.1) e_) (fun e_ => (hk_.2.2.2.2) e_)))) (fun k_ hk_ => ⟨hk_.1.1, hk_.1.2.1, hk_.1.2.2.1, hk_.1.2.2.2.1, hk_.1.2.2.2.2⟩)); have n1_ := Aside0.mk (Kd.R_mono (ok' := fun k_ => some k_ ≠ (.slice Ao8 t284.length co8 : Value).ownBlock ∧ some k_ ≠ (.slice Ao11 t290.length co11 : Value).ownBlock ∧ some k_ ≠ (.slice Ao14 t295.length co14 : Value).ownBlock ∧ some k_ ≠ (.slice Ao17 t298.length co17 : Value).ownBlock ∧ some k_ ≠ (.slice Ao18 t301.length co18 : Value).ownBlock) (Kd.R_keptB (HO_295001.out) hkp (fun k_ hk_ hs_ => Or.elim hs_ (fun e_ => (hk_.2.2.1) e_) (fun e_ => Or.elim e_ (fun e_ => (hk_.2.2.2.1) e_) (fun e_ => (hk_.2.2.2.2) e_)))) (fun k_ hk_ => ⟨hk_.1.1, hk_.1.2.1, hk_.1.2.2.1, hk_.1.2.2.2.1, hk_.1.2.2.2.2⟩)); have n2_ := Aside0.mk (Kd.R_mono (ok' := fun k_ => some k_ ≠ (.slice Ao8 t284.length co8 : Value).ownBlock ∧ some k_ ≠ (.slice Ao10 t287.length co10 : Value).ownBlock ∧ some k_ ≠ (.slice Ao14 t295.length co14 : Value).ownBlock ∧ some k_ ≠ (.slice Ao17 t298.length co17 : Value).ownBlock ∧ some k_ ≠ (.slice Ao18 t301.length co18 : Value).ownBlock) (Kd.R_keptB (HO_295002.out) hkp (fun k_ hk_ hs_ => Or.elim hs_ (fun e_ => (hk_.2.2.1) e_) (fun e_ => Or.elim e_ (fun e_ => (hk_.2.2.2.1) e_) (fun e_ => (hk_.2.2.2.2) e_)))) (fun k_ hk_ => ⟨hk_.1.1, hk_.1.2.1, hk_.1.2.2.1, hk_.1.2.2.2.1, hk_.1.2.2.2.2⟩)); have n3_ := Aside0.mk (Kd.R_reok rfl hy0 (fun k_ e_ => HO_306000.out.1 k_ e_)); have n4_ := Aside0.mk (Kd.R_reok rfl hy1 (fun k_ e_ => HO_306001.out.1 k_ e_)); have n5_ := Aside0.mk (Kd.R_reok rfl hy2 (fun k_ e_ => HO_306002.out.1 k_ e_)); have n6_ := Aside0.mk (blk_kept Bd_5 hkp (fun hs_ => Or.elim hs_ (fun e_ => (fun e_ => (Kd.R_ne HO_306000.out BK294.out (by decide)) e_) e_) (fun e_ => Or.elim e_ (fun e_ => (fun e_ => (Kd.R_ne HO_306001.out BK294.out (by decide)) e_) e_) (fun e_ => (fun e_ => (Kd.R_ne HO_306002.out BK294.out (by decide)) e_) e_)))); have n7_ := Aside0.mk (blk_kept Bd_6 hkp (fun hs_ => Or.elim hs_ (fun e_ => (fun e_ => (Kd.R_ne HO_306000.out BK305.out (by decide)) e_) e_) (fun e_ => Or.elim e_ (fun e_ => (fun e_ => (Kd.R_ne HO_306001.out BK305.out (by decide)) e_) e_) (fun e_ => (fun e_ => (Kd.R_ne HO_306002.out BK305.out (by decide)) e_) e_)))); have n8_ := Aside0.mk (hb); clear HO_295000; clear HO_295001; clear HO_295002; clear HO_306000; clear HO_306001; clear HO_306002; clear BK294; clear BK305; clear HB; have HO_295000 := n0_; have HO_295001 := n1_; have HO_295002 := n2_; have HO_306000 := n3_; have HO_306001 := n4_; have HO_306002 := n5_; have BK294 := n6_; have BK305 := n7_; have HB := n8_; clear n0_ n1_ n2_ n3_ n4_ n5_ n6_ n7_ n8_; (try clear hb); (try clear hkp); (try clear hy0); (try clear hy1); (try clear hy2); have hcz87_0 : w86.cell? ⟨gb305, 0, none⟩ = some (.slice Ao14 t295.length co14) := (blk_cell BK305.out 0).trans rfl; have hcz87_1 : w86.cell? ⟨gb305, 1, none⟩ = some (.slice Ao17 t298.length co17) := (blk_cell BK305.out 1).trans rfl; have hcz87_2 : w86.cell? ⟨gb305, 2, none⟩ = some (.slice Ao18 t301.length co18) := (blk_cell BK305.out 2).trans rfl; have hfz87_0 := blk_frozen BK305.out 0; have hfz87_1 := blk_frozen BK305.out 1; have hfz87_2 := blk_frozen BK305.out 2) | ((with_reducible refine gate_callee (f := 46) rfl ?_); refine goesL_ (some 38) rfl rfl Try.func46 (by kernel_rfl) rfl #[.agg #[.slice Ao14 t308.length co14, .slice Ao17 t309.length co17, .slice Ao18 t310.length co18], .int .i64 1] rfl Bd_31 ?_; (with_reducible refine (laws_heldLayout.calls kj4 _ _ t308 _ _ t309 _ _ t310 1 t311 _ ?side1 ?side2 ?side3 ?side4 ?side5 ?side6 A31.out).mono ?_); (case side1 => repeat (first | exact (Kd.R_reads' HO_306000.out).2.2 | (with_reducible refine Kd.C_alloc ?_ _) | (with_reducible refine Kd.C_drewN ?_ _) | (with_reducible refine Kd.C_drew ?_))); (case side2 => rw [show t308.length = t295.length from (Kd.R_reads' HO_306000.out).1.symm]; exact (Kd.R_reads' HO_306000.out).2.1); (case side3 => repeat (first | exact (Kd.R_reads' HO_306001.out).2.2 | (with_reducible refine Kd.C_alloc ?_ _) | (with_reducible refine Kd.C_drewN ?_ _) | (with_reducible refine Kd.C_drew ?_))); (case side4 => rw [show t309.length = t298.length from (Kd.R_reads' HO_306001.out).1.symm]; exact (Kd.R_reads' HO_306001.out).2.1); (case side5 => repeat (first | exact (Kd.R_reads' HO_306002.out).2.2 | (with_reducible refine Kd.C_alloc ?_ _) | (with_reducible refine Kd.C_drewN ?_ _) | (with_reducible refine Kd.C_drew ?_))); (case side6 => rw [show t310.length = t301.length from (Kd.R_reads' HO_306002.out).1.symm]; exact (Kd.R_reads' HO_306002.out).2.1); rintro e w88 ⟨rfl, hb⟩; refine ⟨_, rfl, ?_⟩; have n0_ := Aside0.mk (Kd.R_below Bd_23 hb); have n1_ := Aside0.mk (Kd.R_below Bd_24 hb); have n2_ := Aside0.mk (Kd.R_below Bd_25 hb); have n3_ := Aside0.mk (Kd.R_below Bd_26 hb); have n4_ := Aside0.mk (Kd.R_below Bd_27 hb); have n5_ := Aside0.mk (Kd.R_below Bd_28 hb); have n6_ := Aside0.mk (blk_below (g := gb294) (o := .cells #[.slice Ao8 t284.length co8, .slice Ao10 t287.length co10, .slice Ao11 t290.length co11] 39 (0, 0)) Bd_5 hb); have n7_ := Aside0.mk (blk_below (g := gb305) (o := .cells #[.slice Ao14 t295.length co14, .slice Ao17 t298.length co17, .slice Ao18 t301.length co18] 39 (0, 0)) Bd_6 hb); have n8_ := Aside0.mk (below_step Bd_2 hb); clear HO_295000; clear HO_295001; clear HO_295002; clear HO_306000; clear HO_306001; clear HO_306002; clear BK294; clear BK305; clear HB; have HO_295000 := n0_; have HO_295001 := n1_; have HO_295002 := n2_; have HO_306000 := n3_; have HO_306001 := n4_; have HO_306002 := n5_; have BK294 := n6_; have BK305 := n7_; have HB := n8_; clear n0_ n1_ n2_ n3_ n4_ n5_ n6_ n7_ n8_; (try clear hb); (try clear hb2); (try clear hk); (try clear hi)))
       go_ret
       exact ⟨by first | rfl | (simp [errW_none, errW_some] <;> rfl) | (simp [*, errW_none, errW_some] <;> rfl), by repeat (first | (with_reducible first | exact HB.out | apply below_alloc | apply pw_below_drewN | apply below_drew1 | refine below_set ?_ GE294.out | refine below_set ?_ GE305.out) | exact HB.out)⟩
/-- THE ONE PURE STATEMENT of laws_FnExactReadLayout: yours. -/
def laws_FnExactReadLayout.Pure : Prop := ∀ (a0 : ByteArray), a0.size ≤ 140737488351232 → ∃ k, laws_FnExactReadLayout.f k a0 = some true
theorem laws_FnExactReadLayout.walk (P : laws_FnExactReadLayout.Pure) (a0 : ByteArray) (w : World) (w0 : a0.size ≤ 140737488351232) :
  Calls Try.prog 8 #[.string a0] w fun e w' => e = .returned (.bool true) ∧ Below w.heap.size w w' := by
 obtain ⟨k, h⟩ := P a0 w0
 refine (laws_FnExactReadLayout.calls k a0 true w h).mono ?_
 rintro e w' ⟨rfl, hd⟩
 exact ⟨rfl, hd⟩
end Go.Proofs.Ytjmhhgnknjfnlaa.PFnExactReadLayout
