-- functions and their walks: written by a program of this claim's
import Derived.Test.YtbjambmdononiaaProg
import Derived.Test.YtbjambmdononiaaVFnExactPictureParts
import Derived.Test.YtbjambmdononiaaZFnExactPicturePartsy0
import Derived.Test.YtbjambmdononiaaZFnExactPicturePartsy3
namespace Go.Proofs.Ytbjambmdononiaa.PFnExactPictureParts
open Go.RowKit Go.Proofs.YtbjambmdononiaaW.PrintWords Go.Proofs.YtbjambmdononiaaW.PrintLast Go.Proofs.YtbjambmdononiaaW.PrintMore
attribute [local go_sem] max2_int min2_int max_two min_two max_three min_three max_four min_four
set_option linter.unusedVariables false
set_option linter.unusedSimpArgs false
theorem Be_0 {P : Prop} (h : P := by first | (with_reducible assumption) | assumption) : P := h
theorem Be_1 {P : Prop} (h : P := by first | rfl | (simp [errW_none, errW_some] <;> rfl) | (simp [*, errW_none, errW_some] <;> rfl)) : P := h
theorem Be_2 {P : Prop} (h : P := by first | rfl | (simp; done) | (simp [*]; done)) : P := h
theorem Be_3 {P : Prop} (h : P := by exact ⟨(blk_cell BK264.out 0).trans rfl, (blk_cell BK264.out 1).trans rfl, (blk_cell BK264.out 2).trans rfl, (blk_cell BK264.out 3).trans rfl⟩) : P := h
theorem Be_4 {P : Prop} (h : P := by (try simp only [List.map_toArray, List.map_cons, List.map_nil]); first | done | rfl | (simp only [List.length_drop, List.length_take]; rfl)) : P := h
theorem Be_5 {P : Prop} (h : P := by repeat (first | exact Drawn0.refl _ | apply Drawn0.step)) : P := h
theorem Be_6 {P : Prop} (h : P := by (with_reducible repeat (first | refine blk_drewN ?_ _ | refine blk_drew ?_ | refine blk_alloc ?_ _)); exact BK249.out) : P := h
theorem Be_7 {P : Prop} (h : P := by (with_reducible repeat (first | apply Kd.V_alloc | apply Kd.V_drewN | apply Kd.V_drew)); exact HO0_2.out) : P := h
theorem Be_8 {P : Prop} (h : P := by (with_reducible repeat (first | apply Kd.V_alloc | apply Kd.V_drewN | apply Kd.V_drew)); exact HO0_3.out) : P := h
theorem Be_9 {P : Prop} (h : P := by (with_reducible repeat (first | apply Kd.R_alloc | apply Kd.R_drewN | apply Kd.R_drew)); exact (Kd.R_mono (Kd.R_far (p := ⟨gb233, 2, none⟩) (Kd.R_types HO236.out BK233.out (by decide)) (fun _ hk => hk.2) (.slice Ao13 t234.length co13)) (fun _ h_ => h_.1))) : P := h
theorem Be_10 {P : Prop} (h : P := by (with_reducible repeat (first | apply Kd.V_alloc | apply Kd.V_drewN | apply Kd.V_drew)); exact HO_250002.out) : P := h
theorem Be_11 {P : Prop} (h : P := by (with_reducible repeat (first | apply Kd.V_alloc | apply Kd.V_drewN | apply Kd.V_drew)); exact HO_250003.out) : P := h
theorem Be_12 {P : Prop} (h : P := by (with_reducible repeat (first | apply Kd.N_alloc | apply Kd.N_drewN | apply Kd.N_drew)); exact HO_11.out) : P := h
theorem Be_13 {P : Prop} (h : P := by (with_reducible repeat (first | apply Kd.R_alloc | apply Kd.R_drewN | apply Kd.R_drew)); exact HO_5.out) : P := h
theorem Be_14 {P : Prop} (h : P := by repeat (first | (with_reducible exact HR255_0.out) | (with_reducible refine Kd.C_alloc ?_ _) | (with_reducible refine Kd.C_drewN ?_ _) | (with_reducible refine Kd.C_drew ?_) | exact HR255_0.out)) : P := h
theorem Be_15 {P : Prop} (h : P := by first | rfl | (simp [errW_none, errW_some] <;> rfl) | (simp only [← hji10, ← hji25]; first | rfl | (simp [errW_none, errW_some] <;> rfl)) | (simp [*, errW_none, errW_some] <;> rfl)) : P := h
theorem Be_16 {P : Prop} (h : P := by first | omega | exact Nat.le_refl _) : P := h
theorem Be_17 {P : Prop} (h : P := by (with_reducible repeat (first | apply Kd.R_alloc | apply Kd.R_drewN | apply Kd.R_drew)); exact HO_3.out) : P := h
def laws_toSeq.f (k : Nat) (a0_0 : Int) (a0_1 : Int) (l0_2 : List Int) (l0_3 : List Int) : Option (Int × Int × List Int × List Int) := (laws_toIntS.f k l0_2).bind fun t234 => ((laws_toIntS.f k l0_3).bind fun t237 => (some (a0_0, a0_1, t234, t237)))
theorem laws_toSeq.mono : ∀ a0 a1 a2 a3 k, LeO (laws_toSeq.f k a0 a1 a2 a3) (laws_toSeq.f (k + 1) a0 a1 a2 a3) := by
 intro a0 a1 a2 a3 k; unfold laws_toSeq.f
 repeat' first
   | (with_reducible exact laws_toIntS.mono _ _)
   | (with_reducible exact LeO.refl _)
   | (with_reducible exact LeO.none _)
   | (with_reducible refine LeO.ite ?_ ?_)
   | (with_reducible refine LeO.bind ?_ (fun _ => ?_))
   | exact laws_toIntS.mono _ _
   | exact LeO.none _
   | refine LeO.ite ?_ ?_
   | refine LeO.bind ?_ (fun _ => ?_)
set_option maxHeartbeats 8000000 in
set_option maxRecDepth 100000 in
theorem laws_toSeq.calls (k : Nat) (a0_0 : Int) (a0_1 : Int) (A0_2 : Option Addr) (c0_2 : Nat) (l0_2 : List Int) (A0_3 : Option Addr) (c0_3 : Nat) (l0_3 : List Int) (r1 : Int) (r2 : Int) (r3 : List Int) (r4 : List Int) (w : World) (hr0_2 : Kd.C (Kd.int .i64) w A0_2 l0_2.length l0_2) (hc0_2 : l0_2.length ≤ c0_2) (hr0_3 : Kd.C (Kd.int .i64) w A0_3 l0_3.length l0_3) (hc0_3 : l0_3.length ≤ c0_3) (h : laws_toSeq.f k a0_0 a0_1 l0_2 l0_3 = some (r1, r2, r3, r4)) :
  Calls Try.prog 18 #[.agg #[.int .i64 a0_0, .int .i64 a0_1, .slice A0_2 l0_2.length c0_2, .slice A0_3 l0_3.length c0_3]] w fun e w' => ∃ v2_ v3_ : Value, e = .returned (.agg #[.int .i64 r1, .int .i64 r2, v2_, v3_]) ∧ Kd.R (Kd.int .i64) 3 w' w.heap.size (fun k_ => some k_ ≠ (v3_ : Value).ownBlock) v2_ r3 ∧ Kd.R (Kd.int .i64) 3 w' w.heap.size (fun k_ => some k_ ≠ (v2_ : Value).ownBlock) v3_ r4 ∧ Below w.heap.size w w' := by
 have hu24 := Try.underlying24; have hu33 := Try.underlying33; have HR0_2 := Aside0.mk hr0_2; have HC0_2 := Aside0.mk hc0_2; clear hr0_2 hc0_2; have HR0_3 := Aside0.mk hr0_3; have HC0_3 := Aside0.mk hc0_3; clear hr0_3 hc0_3; have HB := Aside0.mk (Below.refl w.heap.size w); have H : ((laws_toIntS.f k l0_2).bind fun t234 => ((laws_toIntS.f k l0_3).bind fun t237 => (some (a0_0, a0_1, t234, t237)))) = some (r1, r2, r3, r4) := h; clear h; replace H := Option.bind_eq_some_iff.mp H; obtain ⟨t234, A20, H⟩ := H; try dsimp only at H
 have A2 := Aside0.mk A20; clear A20; replace H := Option.bind_eq_some_iff.mp H; obtain ⟨t237, A30, H⟩ := H; try dsimp only at H
 have A3 := Aside0.mk A30; clear A30; simp only [Option.some.injEq, Prod.mk.injEq] at H; obtain ⟨rfl, rfl, rfl, rfl⟩ := H; go_enter Try.func18, Try.ntmps18; go_wp2_with (first | ((with_reducible refine gate_dst (N := 1) rfl ?_); refine bx_ (N := 1) (cs := #[.int .i64 a0_0, .int .i64 a0_1, .slice A0_2 l0_2.length c0_2, .slice A0_3 l0_3.length c0_3]) (t := 24) ?_; intro gb231 hg w4 hbox hb; have BK231 := Aside0.mk (hbox); have GW231 := gw_ hg hb_; have GE231 := gw_ hg hb_; replace HB := Aside0.mk (below_step hb_ hb); clear hb hbox hg) | ((with_reducible refine gate_dst (N := 2) rfl ?_); refine bx_ (N := 2) (cs := #[.int .i64 0, .int .i64 0, .slice none 0 0, .slice none 0 0]) (t := 33) ?_; intro gb232 hg w5 hbox hb; have BK232 := Aside0.mk (hbox); have GW232 := gw_ hg hb_; have GE232 := gw_ hg hb_; replace HB := Aside0.mk (below_step hb_ hb); obtain ⟨NB231_232, NB232_231, BK231⟩ := nb_ hg hb BK231; clear hb hbox hg) | ((with_reducible refine gate_dst (N := 3) rfl ?_); refine bx_ (N := 3) (cs := #[.int .i64 0, .int .i64 0, .slice none 0 0, .slice none 0 0]) (t := 33) ?_; intro gb233 hg w6 hbox hb; have BK233 := Aside0.mk (hbox); have GW233 := gw_ hg hb_; have GE233 := gw_ hg hb_; replace HB := Aside0.mk (below_step hb_ hb); obtain ⟨NB231_233, NB233_231, BK231⟩ := nb_ hg hb BK231; obtain ⟨NB232_233, NB233_232, BK232⟩ := nb_ hg hb BK232; clear hb hbox hg; have hnb7 := NB231_232.out; have hnc7 := NB232_231.out; have hnb8 := NB231_233.out; have hnc8 := NB233_231.out; have hz9 := bc4_ BK231.out; have hnb10 := NB233_232.out; have hnc10 := NB232_233.out; have hz11 := bc4_ BK233.out) | ((with_reducible refine gate_callee (f := 76) rfl ?_); refine gA_ (some 12) Try.func76 (laws_toIntS.calls _ _ _ _ _ _ ?side1 ?side2 A2.out) ?_; (case side1 => exact Kd.C_below HR0_2.out hb_); (case side2 => exact HC0_2.out); rintro e w12 ⟨v235, rfl, ho0, hb⟩; refine ⟨_, rfl, ?_⟩; have HO236 := Aside0.mk (Kd.R_lower ho0 (below_size hb_)); replace BK231 := bb_ BK231 hb; replace BK232 := bb_ BK232 hb; replace BK233 := Aside0.mk (blk_below (g := gb233) (o := .cells #[.int .i64 a0_0, .int .i64 a0_1, .slice none 0 0, .slice none 0 0] 33 (0, 0)) (by (with_reducible repeat (first | refine blk_drewN ?_ _ | refine blk_drew ?_ | refine blk_alloc ?_ _)); refine blk_put (cs := #[.int .i64 a0_0, .int .i64 0, .slice none 0 0, .slice none 0 0]) ?_ 1 _ rfl; (with_reducible repeat (first | refine blk_drewN ?_ _ | refine blk_drew ?_ | refine blk_alloc ?_ _)); refine blk_put (cs := #[.int .i64 0, .int .i64 0, .slice none 0 0, .slice none 0 0]) ?_ 0 _ rfl; (with_reducible repeat (first | refine blk_drewN ?_ _ | refine blk_drew ?_ | refine blk_alloc ?_ _)); exact BK233.out) hb); replace HB := Aside0.mk (below_step hb_ hb); (try clear hb); (try clear hb2); (try clear hk); (try clear hi); (try clear ho0); obtain ⟨Ao13, co13, eo13⟩ := Kd.R_slice HO236.out; subst eo13; have hz14 := bc4_ BK233.out; have hz15 := bc4_ BK231.out) | ((with_reducible refine gate_callee (f := 76) rfl ?_); refine gA_ (some 16) Try.func76 (laws_toIntS.calls _ _ _ _ _ _ ?side1 ?side2 A3.out) ?_; (case side1 => exact Kd.C_below HR0_3.out hb_); (case side2 => exact HC0_3.out); rintro e w16 ⟨v238, rfl, ho0, hb⟩; refine ⟨_, rfl, ?_⟩; have HO239 := Aside0.mk (Kd.R_lower (Kd.R_new' ho0 (Kd.R_lt Be_9)) (below_size hb_)); replace HO236 := Aside0.mk (Kd.R_elder' Be_9 (Kd.R_base ho0) hb); replace BK231 := bb_ BK231 hb; replace BK232 := bb_ BK232 hb; replace BK233 := Aside0.mk (blk_below (g := gb233) (o := .cells #[.int .i64 a0_0, .int .i64 a0_1, .slice Ao13 t234.length co13, .slice none 0 0] 33 (0, 0)) (by (with_reducible repeat (first | refine blk_drewN ?_ _ | refine blk_drew ?_ | refine blk_alloc ?_ _)); refine blk_put (cs := #[.int .i64 a0_0, .int .i64 a0_1, .slice none 0 0, .slice none 0 0]) ?_ 2 _ rfl; (with_reducible repeat (first | refine blk_drewN ?_ _ | refine blk_drew ?_ | refine blk_alloc ?_ _)); exact BK233.out) hb); replace HB := Aside0.mk (below_step hb_ hb); (try clear hb); (try clear hb2); (try clear hk); (try clear hi); (try clear ho0); obtain ⟨Ao17, co17, eo17⟩ := Kd.R_slice HO239.out; subst eo17; have hz18 := bc4_ BK233.out; have hz19 := bc4_ BK232.out)); refine bodyPost_ret (results_cell_row rfl _ _ gb232 33 #[.int .i64 a0_0, .int .i64 a0_1, .slice Ao13 t234.length co13, .slice Ao17 t237.length co17] (0, 0) _ rfl (by (with_reducible repeat (first | refine blk_drewN ?_ _ | refine blk_drew ?_ | refine blk_alloc ?_ _)); refine blk_put (cs := #[.int .i64 a0_0, .int .i64 a0_1, .slice Ao13 t234.length co13, .slice none 0 0]) ?_ 3 _ rfl; (with_reducible repeat (first | refine blk_drewN ?_ _ | refine blk_drew ?_ | refine blk_alloc ?_ _)); refine blk_put (cs := #[.int .i64 a0_0, .int .i64 a0_1, .slice none 0 0, .slice none 0 0]) ?_ 2 _ rfl; (with_reducible repeat (first | refine blk_drewN ?_ _ | refine blk_drew ?_ | refine blk_alloc ?_ _)); refine blk_put (cs := #[.int .i64 a0_0, .int .i64 0, .slice none 0 0, .slice none 0 0]) ?_ 1 _ rfl; (with_reducible repeat (first | refine blk_drewN ?_ _ | refine blk_drew ?_ | refine blk_alloc ?_ _)); refine blk_put (cs := #[.int .i64 0, .int .i64 0, .slice none 0 0, .slice none 0 0]) ?_ 0 _ rfl; (with_reducible repeat (first | refine blk_drewN ?_ _ | refine blk_drew ?_ | refine blk_alloc ?_ _)); refine blk_far ?_ NB232_233.out _; (with_reducible repeat (first | refine blk_drewN ?_ _ | refine blk_drew ?_ | refine blk_alloc ?_ _)); exact BK232.out) Try.underlying33 rfl (by kernel_rfl)) rfl ?_; exact ⟨_, _, Be_1, (by (with_reducible repeat (first | apply Kd.R_alloc | apply Kd.R_drewN | apply Kd.R_drew)); exact Kd.R_mono (Kd.R_far (p := ⟨gb232, 3, none⟩) (Kd.R_far (p := ⟨gb232, 2, none⟩) (Kd.R_far (p := ⟨gb232, 1, none⟩) (Kd.R_far (p := ⟨gb232, 0, none⟩) (Kd.R_far (p := ⟨gb233, 3, none⟩) (Kd.R_types (Kd.R_types HO236.out BK233.out (by decide)) BK232.out (by decide)) (fun _ hk => hk.1.2) (.slice Ao17 t237.length co17)) (fun _ hk => hk.2) (.int .i64 a0_0)) (fun _ hk => hk.2) (.int .i64 a0_1)) (fun _ hk => hk.2) (.slice Ao13 t234.length co13)) (fun _ hk => hk.2) (.slice Ao17 t237.length co17)) (fun _ hk => hk.1.1.2)), (by (with_reducible repeat (first | apply Kd.R_alloc | apply Kd.R_drewN | apply Kd.R_drew)); exact Kd.R_mono (Kd.R_far (p := ⟨gb232, 3, none⟩) (Kd.R_far (p := ⟨gb232, 2, none⟩) (Kd.R_far (p := ⟨gb232, 1, none⟩) (Kd.R_far (p := ⟨gb232, 0, none⟩) (Kd.R_far (p := ⟨gb233, 3, none⟩) (Kd.R_types (Kd.R_types HO239.out BK233.out (by decide)) BK232.out (by decide)) (fun _ hk => hk.1.2) (.slice Ao17 t237.length co17)) (fun _ hk => hk.2) (.int .i64 a0_0)) (fun _ hk => hk.2) (.int .i64 a0_1)) (fun _ hk => hk.2) (.slice Ao13 t234.length co13)) (fun _ hk => hk.2) (.slice Ao17 t237.length co17)) (fun _ hk => hk.1.1.2)), hb_⟩
def laws_toPar.f (a0_0 : Int) (a0_1 : Bool) (a0_2 : Bool) (a0_3 : Bool) : Option (Int × Bool × Bool × Bool) := some (a0_0, a0_1, a0_2, a0_3)
set_option maxHeartbeats 8000000 in
set_option maxRecDepth 100000 in
theorem laws_toPar.calls (a0_0 : Int) (a0_1 : Bool) (a0_2 : Bool) (a0_3 : Bool) (r1 : Int) (r2 : Bool) (r3 : Bool) (r4 : Bool) (w : World) (h : laws_toPar.f a0_0 a0_1 a0_2 a0_3 = some (r1, r2, r3, r4)) :
  Calls Try.prog 19 #[.agg #[.int .i64 a0_0, .bool a0_1, .bool a0_2, .bool a0_3]] w fun e w' => e = .returned (.agg #[.int .i64 r1, .bool r2, .bool r3, .bool r4]) ∧ Below w.heap.size w w' := by
 have hu26 := Try.underlying26; have hu35 := Try.underlying35; have HB := Aside0.mk (Below.refl w.heap.size w); have H : (some (a0_0, a0_1, a0_2, a0_3)) = some (r1, r2, r3, r4) := h; clear h; simp only [Option.some.injEq, Prod.mk.injEq] at H; obtain ⟨rfl, rfl, rfl, rfl⟩ := H; go_enter Try.func19, Try.ntmps19; go_wp2_with (first | ((with_reducible refine gate_dst (N := 1) rfl ?_); refine bx_ (N := 1) (cs := #[.int .i64 a0_0, .bool a0_1, .bool a0_2, .bool a0_3]) (t := 26) ?_; intro gb240 hg w2 hbox hb; have BK240 := Aside0.mk (hbox); have GW240 := gw_ hg hb_; have GE240 := gw_ hg hb_; replace HB := Aside0.mk (below_step hb_ hb); clear hb hbox hg) | ((with_reducible refine gate_dst (N := 2) rfl ?_); refine bx_ (N := 2) (cs := #[.int .i64 0, .bool false, .bool false, .bool false]) (t := 35) ?_; intro gb241 hg w3 hbox hb; have BK241 := Aside0.mk (hbox); have GW241 := gw_ hg hb_; have GE241 := gw_ hg hb_; replace HB := Aside0.mk (below_step hb_ hb); obtain ⟨NB240_241, NB241_240, BK240⟩ := nb_ hg hb BK240; clear hb hbox hg) | ((with_reducible refine gate_dst (N := 3) rfl ?_); refine bx_ (N := 3) (cs := #[.int .i64 0, .bool false, .bool false, .bool false]) (t := 35) ?_; intro gb242 hg w4 hbox hb; have BK242 := Aside0.mk (hbox); have GW242 := gw_ hg hb_; have GE242 := gw_ hg hb_; replace HB := Aside0.mk (below_step hb_ hb); obtain ⟨NB240_242, NB242_240, BK240⟩ := nb_ hg hb BK240; obtain ⟨NB241_242, NB242_241, BK241⟩ := nb_ hg hb BK241; clear hb hbox hg; have hnb5 := NB240_241.out; have hnc5 := NB241_240.out; have hnb6 := NB240_242.out; have hnc6 := NB242_240.out; have hz7 := bc4_ BK240.out; have hnb8 := NB242_241.out; have hnc8 := NB241_242.out; have hz9 := bc4_ BK242.out; have hz10 := bc4_ BK241.out)); refine bodyPost_ret (results_cell_row rfl _ _ gb241 35 #[.int .i64 a0_0, .bool a0_1, .bool a0_2, .bool a0_3] (0, 0) _ rfl (by (with_reducible repeat (first | refine blk_drewN ?_ _ | refine blk_drew ?_ | refine blk_alloc ?_ _)); refine blk_put (cs := #[.int .i64 a0_0, .bool a0_1, .bool a0_2, .bool false]) ?_ 3 _ rfl; (with_reducible repeat (first | refine blk_drewN ?_ _ | refine blk_drew ?_ | refine blk_alloc ?_ _)); refine blk_put (cs := #[.int .i64 a0_0, .bool a0_1, .bool false, .bool false]) ?_ 2 _ rfl; (with_reducible repeat (first | refine blk_drewN ?_ _ | refine blk_drew ?_ | refine blk_alloc ?_ _)); refine blk_put (cs := #[.int .i64 a0_0, .bool false, .bool false, .bool false]) ?_ 1 _ rfl; (with_reducible repeat (first | refine blk_drewN ?_ _ | refine blk_drew ?_ | refine blk_alloc ?_ _)); refine blk_put (cs := #[.int .i64 0, .bool false, .bool false, .bool false]) ?_ 0 _ rfl; (with_reducible repeat (first | refine blk_drewN ?_ _ | refine blk_drew ?_ | refine blk_alloc ?_ _)); refine blk_far ?_ NB241_242.out _; (with_reducible repeat (first | refine blk_drewN ?_ _ | refine blk_drew ?_ | refine blk_alloc ?_ _)); refine blk_far ?_ NB241_242.out _; (with_reducible repeat (first | refine blk_drewN ?_ _ | refine blk_drew ?_ | refine blk_alloc ?_ _)); refine blk_far ?_ NB241_242.out _; (with_reducible repeat (first | refine blk_drewN ?_ _ | refine blk_drew ?_ | refine blk_alloc ?_ _)); refine blk_far ?_ NB241_242.out _; (with_reducible repeat (first | refine blk_drewN ?_ _ | refine blk_drew ?_ | refine blk_alloc ?_ _)); exact BK241.out) Try.underlying35 rfl (by kernel_rfl)) rfl ?_; exact ⟨Be_1, hb_⟩
end Go.Proofs.Ytbjambmdononiaa.PFnExactPictureParts
namespace Go.Proofs.Ytbjambmdononiaa.PFnExactPictureParts
open Go.RowKit Go.Proofs.YtbjambmdononiaaW.PrintWords Go.Proofs.YtbjambmdononiaaW.PrintLast Go.Proofs.YtbjambmdononiaaW.PrintMore
attribute [local go_sem] max2_int min2_int max_two min_two max_three min_three max_four min_four
set_option linter.unusedVariables false
set_option linter.unusedSimpArgs false
def laws_toStringS.l0 : Nat → List ByteArray → List ByteArray → Int → Option (List ByteArray)
 | 0, _, _, _ => none
 | k + 1, x0, x3, x4 => if x4 < (x0.length : Int) then (if 0 ≤ x4 then (if x4 < (x3.length : Int) then (laws_toStringS.l0 k x0 (x3.set (x4 : Int).toNat (rdOf ByteArray.empty x0 x4)) (wrap64 (x4 + 1))) else (none)) else (none)) else (some x3)
def laws_toStringS.f (k : Nat) (l0 : List ByteArray) : Option (List ByteArray) := if 0 ≤ (l0.length : Int) then (if ((l0.length : Int) : Int).toNat ≤ 17592186044416 then (laws_toStringS.l0 k l0 (List.replicate ((l0.length : Int) : Int).toNat (⟨#[]⟩ : ByteArray)) 0) else (none)) else (none)
theorem laws_toStringS.mono_l : ∀ k, (∀ y0 y1 y2, LeO (laws_toStringS.l0 k y0 y1 y2) (laws_toStringS.l0 (k + 1) y0 y1 y2))
 | 0 => fun _ _ _ r h => by simp [laws_toStringS.l0] at h
 | k + 1 => by
  have ih0 := laws_toStringS.mono_l k
  ·intro y0 y1 y2
   unfold laws_toStringS.l0
   repeat' first
   | (with_reducible exact ih0 _ _ _)
   | (with_reducible exact LeO.refl _)
   | (with_reducible exact LeO.none _)
   | (with_reducible refine LeO.ite ?_ ?_)
   | (with_reducible refine LeO.bind ?_ (fun _ => ?_))
   | exact ih0 _ _ _
   | exact LeO.none _
   | refine LeO.ite ?_ ?_
   | refine LeO.bind ?_ (fun _ => ?_)
theorem laws_toStringS.mono : ∀ a0 k, LeO (laws_toStringS.f k a0) (laws_toStringS.f (k + 1) a0) := by
 intro a0 k; have ih0 := laws_toStringS.mono_l k; unfold laws_toStringS.f
 repeat' first
   | (with_reducible exact ih0 _ _ _)
   | (with_reducible exact LeO.refl _)
   | (with_reducible exact LeO.none _)
   | (with_reducible refine LeO.ite ?_ ?_)
   | (with_reducible refine LeO.bind ?_ (fun _ => ?_))
   | exact ih0 _ _ _
   | exact LeO.none _
   | refine LeO.ite ?_ ?_
   | refine LeO.bind ?_ (fun _ => ?_)
set_option maxHeartbeats 8000000 in
set_option maxRecDepth 100000 in
theorem laws_toStringS.calls (k : Nat) (A0 : Option Addr) (c0 : Nat) (l0 : List ByteArray) (r : List ByteArray) (w : World) (hr0 : Kd.C Kd.string w A0 l0.length l0) (hc0 : l0.length ≤ c0) (h : laws_toStringS.f k l0 = some r) :
  Calls Try.prog 20 #[.slice A0 l0.length c0] w fun e w' => ∃ v0_ : Value, e = .returned (v0_) ∧ Kd.R Kd.string 9 w' w.heap.size (fun _ => True) v0_ r ∧ Below w.heap.size w w' := by
 have HR0 := Aside0.mk hr0; have HC0 := Aside0.mk hc0; clear hr0 hc0; have HB := Aside0.mk (Below.refl w.heap.size w); have H : (if 0 ≤ (l0.length : Int) then (if ((l0.length : Int) : Int).toNat ≤ 17592186044416 then (laws_toStringS.l0 k l0 (List.replicate ((l0.length : Int) : Int).toNat (⟨#[]⟩ : ByteArray)) 0) else (none)) else (none)) = some r := h; clear h; by_cases c2 : 0 ≤ (l0.length : Int)
 ·rw [if_pos c2] at H
  have c2b0 := eq_true c2; have c2b1 : decide (0 ≤ (l0.length : Int)) = true := decide_eq_true c2; clear c2; by_cases c3 : ((l0.length : Int) : Int).toNat ≤ 17592186044416
  ·rw [if_pos c3] at H
   have c3b0 := eq_true c3; have c3b1 : decide (((l0.length : Int) : Int).toNat ≤ 17592186044416) = true := decide_eq_true c3; clear c3; obtain ⟨y243, hy243⟩ : ∃ y_ : List ByteArray, y_ = (List.replicate ((l0.length : Int) : Int).toNat (⟨#[]⟩ : ByteArray)) := ⟨_, rfl⟩; replace H : (laws_toStringS.l0 k l0 y243 0) = some r := by first | (rw [hy243]; with_reducible exact H) | (have H2_ := (Option.bind_some _ _).symm.trans H; rw [hy243]; with_reducible exact H2_) | (have H2_ := (Option.bind_some _ _).symm.trans H; with_reducible exact H2_) | with_reducible exact H | (rw [hy243]; exact H) | exact H
   have Ny243 := Aside0.mk hy243; clear hy243; have H' := Aside0.mk H; clear H; go_enter Try.func20, Try.ntmps20; go_wp2_with (first | ((with_reducible refine gate_dst (N := 7) rfl ?_); refine Kd.R_make Kd.string _ 9 rfl (N := 7) rfl 27 _ _ rfl (l0.length : Int) rfl rfl Try.underlying27 (.string ⟨#[]⟩) 16 info9 rfl (by decide) (by omega) (⟨#[]⟩ : ByteArray) (ok := fun _ => True) (okp := fun _ => True) rfl (fun _ hk => hk) trivial (of_decide_eq_true Be_0) (Nat.le_trans (Nat.mul_le_mul_right _ (of_decide_eq_true Be_0 : (l0.length : Int).toNat ≤ 17592186044416)) (by omega)) (Below.refl _ _) (Nat.le_refl _) ?_; intro v244 w4 ho5 hb hg_ hnew_; clear hg_ hnew_; (first | rw [← Ny243.out] at ho5 | (simp only [Int.reduceToNat] at ho5; rw [← Ny243.out] at ho5)); have HO245 := Aside0.mk (Kd.R_lower ho5 (below_size hb_)); replace HB := Aside0.mk (below_step hb_ hb); clear hb ho5)); go_loopg [4] k (fun kq v4 w' => ∃ (x3_1 : List ByteArray) (x4_1 : Int), v4 = .int .i64 x4_1 ∧ Aside0 (laws_toStringS.l0 kq l0 x3_1 x4_1 = some r) ∧ Aside0 (kq ≤ k) ∧ Aside0 (Kd.R Kd.string 9 w' w.heap.size (fun _ => True) v244 x3_1) ∧ Aside0 (Below w.heap.size w w'))
   case atStart => exact ⟨(y243), (0), Be_2, H', ⟨Nat.le_refl _⟩, ⟨(by (with_reducible repeat (first | apply Kd.R_alloc | apply Kd.R_drewN | apply Kd.R_drew)); exact HO245.out)⟩, ⟨hb_⟩⟩
   case round =>
    clear H'; try clear c2; try clear c2b0; try clear c2b1; try clear p2; try clear c3; try clear c3b0; try clear c3b1
    obtain ⟨x3_1, x4_1, rfl, HA, HK1, HO_3, HB⟩ := hrel; cases gk with
    | zero => exact absurd HA.out (by simp [laws_toStringS.l0])
    | succ k1 =>
     have H := HA.out; clear HA; simp only [laws_toStringS.l0] at H; by_cases c6 : x4_1 < (l0.length : Int)
     ·rw [if_pos c6] at H
      have c6b0 : decide (x4_1 < (l0.length : Int)) = true := decide_eq_true c6; clear c6; by_cases c7 : 0 ≤ x4_1
      ·rw [if_pos c7] at H
       have c7b0 : decide (0 ≤ x4_1) = true := decide_eq_true c7; clear c7; by_cases c8 : x4_1 < (x3_1.length : Int)
       ·rw [if_pos c8] at H
        have c8b0 : decide (x4_1 < (x3_1.length : Int)) = true := decide_eq_true c8; clear c8; obtain ⟨y247, hy247⟩ : ∃ y_ : List ByteArray, y_ = (x3_1.set (x4_1 : Int).toNat (rdOf ByteArray.empty l0 x4_1)) := ⟨_, rfl⟩; replace H : (laws_toStringS.l0 k1 l0 y247 (wrap64 (x4_1 + 1))) = some r := by first | (rw [hy247]; with_reducible exact H) | (have H2_ := (Option.bind_some _ _).symm.trans H; rw [hy247]; with_reducible exact H2_) | (have H2_ := (Option.bind_some _ _).symm.trans H; with_reducible exact H2_) | with_reducible exact H | (rw [hy247]; exact H) | exact H
        have Ny247 := Aside0.mk hy247; clear hy247; have H' := Aside0.mk H; clear H; have p246 : 0 ≤ (x4_1 : Int) := of_decide_eq_true Be_0; have q246 : x4_1 < (l0.length : Int) := of_decide_eq_true Be_0; obtain ⟨ad246, e246, hx246_0⟩ := Kd.at_string HR0.out x4_1 p246 q246; cases e246; replace hx246_0 := (HB.out.cell (World.block_lt_of_cell? w _ hx246_0)).trans hx246_0; replace p246 := eq_true p246; replace q246 := eq_true q246; have p9 : 0 ≤ (x4_1 : Int) := of_decide_eq_true Be_0; have q9 : (x4_1 : Int) < ((x3_1.length : Int) : Int) := of_decide_eq_true Be_0; obtain ⟨go9, co9, eo9, gb9, gl9, cl9, HG9⟩ := Kd.R_form HO_3.out (by omega); (first | cases eo9 | (injection eo9 with ea_ en_ ec_; (first | subst ea_ | (injection ea_ with ea_; subst ea_)); subst ec_; clear en_)); have GB9 := Aside0.mk gb9; have GG9 := Aside0.mk HG9; clear gb9 gl9 HG9; obtain ⟨hx9_0, hf9_0⟩ := Kd.R_celln (⟨#[]⟩ : ByteArray) HO_3.out (x4_1 : Int) p9 q9; replace p9 := eq_true p9; replace q9 := eq_true q9; have HP10 := Kd.R_putg HO_3.out (x4_1 : Int) (rdOf ByteArray.empty l0 x4_1); go_wp2_with (first | ((with_reducible refine gate_store (t := 9) (p := 20) rfl ?_); refine store_event (t := 9) (p := 20) (v := ?vo_w11) (w1 := (wr.setCell ⟨go9, (x4_1 : Int).toNat, none⟩ (.string (rdOf ByteArray.empty l0 x4_1)))) ?hg ?ho ?hn ?hr ?_; (case ho => rfl); (case hg => rfl); (case hn => rfl); (case hr => first | (go_simp; done) | (go_simp; rfl)); intro w11 hw; have hg : wr.grownBy w11 (some go9) := (by rw [hw]; exact HP10.2); have hp_ : Kd.R Kd.string 9 w11 w.heap.size (fun _ => True) (.slice (some ⟨go9, 0, none⟩) x3_1.length co9) y247 := (by rw [hw, Ny247.out]; exact HP10.1); clear HP10; replace HO_3 := Aside0.mk (hp_); replace HB := Aside0.mk ((by rw [hw]; exact below_set (HB.out) GB9.out : Below w.heap.size w w11)); clear hg hw hp_)); go_roundg k1
        case measure => have := HK1.out; omega
        case rel => exact ⟨(y247), (wrap64 (x4_1 + 1)), Be_2, H', ⟨(by have := HK1.out; omega)⟩, ⟨Be_17⟩, ⟨hb_⟩⟩
       ·rw [if_neg c8] at H
        exact absurd H (by simp)
      ·rw [if_neg c7] at H
       exact absurd H (by simp)
     ·rw [if_neg c6] at H
      have c6b0 : decide (x4_1 < (l0.length : Int)) = false := decide_eq_false c6; clear c6; obtain rfl := Option.some.inj H; go_wp2; go_ret; exact ⟨_, Be_1, Be_17, hb_⟩
  ·rw [if_neg c3] at H
   exact absurd H (by simp)
 ·rw [if_neg c2] at H
  exact absurd H (by simp)
end Go.Proofs.Ytbjambmdononiaa.PFnExactPictureParts
namespace Go.Proofs.Ytbjambmdononiaa.PFnExactPictureParts
open Go.RowKit Go.Proofs.YtbjambmdononiaaW.PrintWords Go.Proofs.YtbjambmdononiaaW.PrintLast Go.Proofs.YtbjambmdononiaaW.PrintMore
attribute [local go_sem] max2_int min2_int max_two min_two max_three min_three max_four min_four
set_option linter.unusedVariables false
set_option linter.unusedSimpArgs false
def impl_within.f (a0 : Int) (a1 : Int) (a2 : Int) : Option (Bool) := if a0 ≥ a1 then (some (decide (a0 ≤ a2))) else (some false)
set_option maxHeartbeats 8000000 in
set_option maxRecDepth 100000 in
theorem impl_within.calls (a0 : Int) (a1 : Int) (a2 : Int) (r : Bool) (w : World) (h : impl_within.f a0 a1 a2 = some r) :
  Calls Try.prog 112 #[.int .i64 a0, .int .i64 a1, .int .i64 a2] w fun e w' => e = .returned (.bool r) ∧ Drawn0 w w' := by
 have H : (if a0 ≥ a1 then (some (decide (a0 ≤ a2))) else (some false)) = some r := h; clear h; by_cases c4 : a0 ≥ a1
 ·rw [if_pos c4] at H
  have c4b0 : decide (a1 ≤ a0) = true := decide_eq_true c4; clear c4; obtain rfl := Option.some.inj H; go_enter Try.func112, Try.ntmps112; go_wp2; go_ret; exact ⟨Be_2, Be_5⟩
 ·rw [if_neg c4] at H
  have c4b0 : decide (a1 ≤ a0) = false := decide_eq_false c4; clear c4; obtain rfl := Option.some.inj H; go_enter Try.func112, Try.ntmps112; go_wp2; go_ret; exact ⟨Be_2, Be_5⟩
end Go.Proofs.Ytbjambmdononiaa.PFnExactPictureParts
namespace Go.Proofs.Ytbjambmdononiaa.PFnExactPictureParts
open Go.RowKit Go.Proofs.YtbjambmdononiaaW.PrintWords Go.Proofs.YtbjambmdononiaaW.PrintLast Go.Proofs.YtbjambmdononiaaW.PrintMore
attribute [local go_sem] max2_int min2_int max_two min_two max_three min_three max_four min_four
set_option linter.unusedVariables false
set_option linter.unusedSimpArgs false
def impl_sumOf.l0 : Nat → Int → List Int → Int → Int → Option (Int)
 | 0, _, _, _, _ => none
 | k + 1, x3, x6, x7, x8 => if x8 < x7 then (if 0 ≤ x8 then (if x8 < (x6.length : Int) then (impl_sumOf.l0 k (wrap64 (x3 + (rd x6 x8))) x6 x7 (wrap64 (x8 + 1))) else (none)) else (none)) else (some x3)
def impl_sumOf.f (k : Nat) (l0 : List Int) : Option (Int) := impl_sumOf.l0 k 0 l0 (l0.length : Int) 0
theorem impl_sumOf.mono_l : ∀ k, (∀ y0 y1 y2 y3, LeO (impl_sumOf.l0 k y0 y1 y2 y3) (impl_sumOf.l0 (k + 1) y0 y1 y2 y3))
 | 0 => fun _ _ _ _ r h => by simp [impl_sumOf.l0] at h
 | k + 1 => by
  have ih0 := impl_sumOf.mono_l k
  ·intro y0 y1 y2 y3
   unfold impl_sumOf.l0
   repeat' first
   | (with_reducible exact ih0 _ _ _ _)
   | (with_reducible exact LeO.refl _)
   | (with_reducible exact LeO.none _)
   | (with_reducible refine LeO.ite ?_ ?_)
   | (with_reducible refine LeO.bind ?_ (fun _ => ?_))
   | exact ih0 _ _ _ _
   | exact LeO.none _
   | refine LeO.ite ?_ ?_
   | refine LeO.bind ?_ (fun _ => ?_)
theorem impl_sumOf.mono : ∀ a0 k, LeO (impl_sumOf.f k a0) (impl_sumOf.f (k + 1) a0) := by
 intro a0 k; have ih0 := impl_sumOf.mono_l k; unfold impl_sumOf.f
 repeat' first
   | (with_reducible exact ih0 _ _ _ _)
   | (with_reducible exact LeO.refl _)
   | (with_reducible exact LeO.none _)
   | (with_reducible refine LeO.ite ?_ ?_)
   | (with_reducible refine LeO.bind ?_ (fun _ => ?_))
   | exact ih0 _ _ _ _
   | exact LeO.none _
   | refine LeO.ite ?_ ?_
   | refine LeO.bind ?_ (fun _ => ?_)
set_option maxHeartbeats 8000000 in
set_option maxRecDepth 100000 in
theorem impl_sumOf.calls (k : Nat) (A0 : Option Addr) (c0 : Nat) (l0 : List Int) (r : Int) (w : World) (hr0 : Kd.C (Kd.int .i64) w A0 l0.length l0) (hc0 : l0.length ≤ c0) (h : impl_sumOf.f k l0 = some r) :
  Calls Try.prog 204 #[.slice A0 l0.length c0] w fun e w' => e = .returned (.int .i64 r) ∧ Drawn0 w w' := by
 have HR0 := Aside0.mk hr0; have HC0 := Aside0.mk hc0; clear hr0 hc0; have H : (impl_sumOf.l0 k 0 l0 (l0.length : Int) 0) = some r := h; clear h; have H' := Aside0.mk H; clear H; go_enter Try.func204, Try.ntmps204; go_wp2; go_loopg [3, 8] k (fun kq v3 v8 w' => ∃ (x3_1 : Int) (x8_1 : Int), v3 = .int .i64 x3_1 ∧ v8 = .int .i64 x8_1 ∧ Aside0 (impl_sumOf.l0 kq x3_1 l0 (l0.length : Int) x8_1 = some r) ∧ Aside0 (kq ≤ k) ∧ Drawn0 w w')
 case atStart => exact ⟨(0), (0), Be_2, Be_2, H', ⟨Nat.le_refl _⟩, Be_5⟩
 case round =>
  clear H'; obtain ⟨x3_1, x8_1, rfl, rfl, HA, HK1, ⟨m1, rfl⟩⟩ := hrel; cases gk with
  | zero => exact absurd HA.out (by simp [impl_sumOf.l0])
  | succ k1 =>
   have H := HA.out; clear HA; simp only [impl_sumOf.l0] at H; by_cases c2 : x8_1 < (l0.length : Int)
   ·rw [if_pos c2] at H
    have c2b0 : decide (x8_1 < (l0.length : Int)) = true := decide_eq_true c2; clear c2; by_cases c3 : 0 ≤ x8_1
    ·rw [if_pos c3] at H
     have c3b0 : decide (0 ≤ x8_1) = true := decide_eq_true c3; clear c3; by_cases c4 : x8_1 < (l0.length : Int)
     ·rw [if_pos c4] at H
      have c4b0 : decide (x8_1 < (l0.length : Int)) = true := decide_eq_true c4; clear c4; have H' := Aside0.mk H; clear H; have p248 : 0 ≤ (x8_1 : Int) := of_decide_eq_true Be_0; have q248 : x8_1 < (l0.length : Int) := of_decide_eq_true Be_0; obtain ⟨ad248, e248, hx248_0⟩ := Kd.at_int HR0.out x8_1 p248 q248; cases e248; replace p248 := eq_true p248; replace q248 := eq_true q248; go_wp2; go_roundg k1
      case measure => have := HK1.out; omega
      case rel => exact ⟨(wrap64 (x3_1 + (rd l0 x8_1))), (wrap64 (x8_1 + 1)), Be_2, Be_2, H', ⟨(by have := HK1.out; omega)⟩, Be_5⟩
     ·rw [if_neg c4] at H
      exact absurd H (by simp)
    ·rw [if_neg c3] at H
     exact absurd H (by simp)
   ·rw [if_neg c2] at H
    have c2b0 : decide (x8_1 < (l0.length : Int)) = false := decide_eq_false c2; clear c2; obtain rfl := Option.some.inj H; go_wp2; go_ret; exact ⟨Be_2, Be_5⟩
end Go.Proofs.Ytbjambmdononiaa.PFnExactPictureParts
namespace Go.Proofs.Ytbjambmdononiaa.PFnExactPictureParts
open Go.RowKit Go.Proofs.YtbjambmdononiaaW.PrintWords Go.Proofs.YtbjambmdononiaaW.PrintLast Go.Proofs.YtbjambmdononiaaW.PrintMore
attribute [local go_sem] max2_int min2_int max_two min_two max_three min_three max_four min_four
set_option linter.unusedVariables false
set_option linter.unusedSimpArgs false
mutual
def impl_SquaresOf.l0 : Nat → List (List Int) → Int → Int → Int → Int → List Int → List Int → Option (Int)
 | 0, _, _, _, _, _, _, _ => none
 | k + 1, x11, x12, x13, x250000, x250001, x250002, x250003 => if x13 < x12 then (if 0 ≤ x13 then (if x13 < (x11.length : Int) then ((impl_within.f ((rd_L5 x11 x13).length : Int) 1 4).bind fun t256 => (if t256 = true then (impl_SquaresOf.l1 k x11 x12 x13 (rd_L5 x11 x13) ((rd_L5 x11 x13).length : Int) 0 x250000 x250001 x250002 x250003) else (some 0))) else (none)) else (none)) else ((impl_sumOf.f k x250002).bind fun t253 => ((impl_sumOf.f k x250003).bind fun t254 => (some (wrap64 (t253 * t254)))))
def impl_SquaresOf.l1 : Nat → List (List Int) → Int → Int → List Int → Int → Int → Int → Int → List Int → List Int → Option (Int)
 | 0, _, _, _, _, _, _, _, _, _, _ => none
 | k + 1, x11, x12, x13, x21, x22, x23, x250000, x250001, x250002, x250003 => if x23 < x22 then (if 0 ≤ x23 then (if x23 < (x21.length : Int) then ((impl_within.f (rd x21 x23) 1 8).bind fun t258 => (if t258 = true then (impl_SquaresOf.l1 k x11 x12 x13 x21 x22 (wrap64 (x23 + 1)) x250000 x250001 x250002 x250003) else (some 0))) else (none)) else (none)) else (impl_SquaresOf.l0 k x11 x12 (wrap64 (x13 + 1)) x250000 x250001 x250002 x250003)
end
def impl_SquaresOf.f (k : Nat) (a0_0 : Int) (a0_1 : Int) (l0_2 : List Int) (l0_3 : List Int) : Option (Int) := (some (([l0_2, l0_3] : List (List Int)) : List (List Int))).bind fun y250 => (impl_SquaresOf.l0 k y250 (y250.length : Int) 0 a0_0 a0_1 l0_2 l0_3)
theorem impl_SquaresOf.mono_l : ∀ k, (∀ y0 y1 y2 y3 y4 y5 y6, LeO (impl_SquaresOf.l0 k y0 y1 y2 y3 y4 y5 y6) (impl_SquaresOf.l0 (k + 1) y0 y1 y2 y3 y4 y5 y6)) ∧ (∀ y0 y1 y2 y3 y4 y5 y6 y7 y8 y9, LeO (impl_SquaresOf.l1 k y0 y1 y2 y3 y4 y5 y6 y7 y8 y9) (impl_SquaresOf.l1 (k + 1) y0 y1 y2 y3 y4 y5 y6 y7 y8 y9))
 | 0 => ⟨fun _ _ _ _ _ _ _ r h => by simp [impl_SquaresOf.l0] at h, fun _ _ _ _ _ _ _ _ _ _ r h => by simp [impl_SquaresOf.l1] at h⟩
 | k + 1 => by
  obtain ⟨ih0, ih1⟩ := impl_SquaresOf.mono_l k; refine ⟨?_, ?_⟩
  ·intro y0 y1 y2 y3 y4 y5 y6
   unfold impl_SquaresOf.l0
   repeat' first
   | (with_reducible exact ih0 _ _ _ _ _ _ _)
   | (with_reducible exact ih1 _ _ _ _ _ _ _ _ _ _)
   | (with_reducible exact impl_sumOf.mono _ _)
   | (with_reducible exact LeO.refl _)
   | (with_reducible exact LeO.none _)
   | (with_reducible refine LeO.ite ?_ ?_)
   | (with_reducible refine LeO.bind ?_ (fun _ => ?_))
   | exact ih0 _ _ _ _ _ _ _
   | exact ih1 _ _ _ _ _ _ _ _ _ _
   | exact impl_sumOf.mono _ _
   | exact LeO.none _
   | refine LeO.ite ?_ ?_
   | refine LeO.bind ?_ (fun _ => ?_)
  ·intro y0 y1 y2 y3 y4 y5 y6 y7 y8 y9
   unfold impl_SquaresOf.l1
   repeat' first
   | (with_reducible exact ih0 _ _ _ _ _ _ _)
   | (with_reducible exact ih1 _ _ _ _ _ _ _ _ _ _)
   | (with_reducible exact impl_sumOf.mono _ _)
   | (with_reducible exact LeO.refl _)
   | (with_reducible exact LeO.none _)
   | (with_reducible refine LeO.ite ?_ ?_)
   | (with_reducible refine LeO.bind ?_ (fun _ => ?_))
   | exact ih0 _ _ _ _ _ _ _
   | exact ih1 _ _ _ _ _ _ _ _ _ _
   | exact impl_sumOf.mono _ _
   | exact LeO.none _
   | refine LeO.ite ?_ ?_
   | refine LeO.bind ?_ (fun _ => ?_)
theorem impl_SquaresOf.mono : ∀ a0 a1 a2 a3 k, LeO (impl_SquaresOf.f k a0 a1 a2 a3) (impl_SquaresOf.f (k + 1) a0 a1 a2 a3) := by
 intro a0 a1 a2 a3 k; obtain ⟨ih0, ih1⟩ := impl_SquaresOf.mono_l k; unfold impl_SquaresOf.f
 repeat' first
   | (with_reducible exact ih0 _ _ _ _ _ _ _)
   | (with_reducible exact ih1 _ _ _ _ _ _ _ _ _ _)
   | (with_reducible exact impl_sumOf.mono _ _)
   | (with_reducible exact LeO.refl _)
   | (with_reducible exact LeO.none _)
   | (with_reducible refine LeO.ite ?_ ?_)
   | (with_reducible refine LeO.bind ?_ (fun _ => ?_))
   | exact ih0 _ _ _ _ _ _ _
   | exact ih1 _ _ _ _ _ _ _ _ _ _
   | exact impl_sumOf.mono _ _
   | exact LeO.none _
   | refine LeO.ite ?_ ?_
   | refine LeO.bind ?_ (fun _ => ?_)
set_option maxHeartbeats 8000000 in
set_option maxRecDepth 100000 in
theorem impl_SquaresOf.calls (k : Nat) (a0_0 : Int) (a0_1 : Int) (P0_2_ : Nat → Prop) (A0_2 : Option Addr) (c0_2 : Nat) (l0_2 : List Int) (P0_3_ : Nat → Prop) (A0_3 : Option Addr) (c0_3 : Nat) (l0_3 : List Int) (r : Int) (w : World) (hs0_2 : Kd.V (Kd.int .i64) 3 w w.heap.size (fun k_ => P0_2_ k_) (.slice A0_2 l0_2.length c0_2) l0_2) (hs0_3 : Kd.V (Kd.int .i64) 3 w w.heap.size (fun k_ => P0_3_ k_) (.slice A0_3 l0_3.length c0_3) l0_3) (h : impl_SquaresOf.f k a0_0 a0_1 l0_2 l0_3 = some r) :
  Calls Try.prog 162 #[.agg #[.int .i64 a0_0, .int .i64 a0_1, .slice A0_2 l0_2.length c0_2, .slice A0_3 l0_3.length c0_3]] w fun e w' => e = .returned (.int .i64 r) ∧ Below w.heap.size w w' := by
 have hu33 := Try.underlying33; have HO0_2 := Aside0.mk (show Kd.V (Kd.int .i64) 3 w w.heap.size (fun k_ => ((P0_2_ k_ ∨ P0_3_ k_) ∨ w.heap.size ≤ k_)) (.slice A0_2 l0_2.length c0_2) l0_2 from Kd.V_mono hs0_2 (fun k_ hk => .inl (.inl hk))); have HO0_3 := Aside0.mk (show Kd.V (Kd.int .i64) 3 w w.heap.size (fun k_ => ((P0_2_ k_ ∨ P0_3_ k_) ∨ w.heap.size ≤ k_)) (.slice A0_3 l0_3.length c0_3) l0_3 from Kd.V_mono hs0_3 (fun k_ hk => .inl (.inr hk))); have HB := Aside0.mk (Below.refl w.heap.size w); have H : ((some (([l0_2, l0_3] : List (List Int)) : List (List Int))).bind fun y250 => (impl_SquaresOf.l0 k y250 (y250.length : Int) 0 a0_0 a0_1 l0_2 l0_3)) = some r := h; clear h; obtain ⟨y250, hy250⟩ : ∃ y_ : List (List Int), y_ = (([l0_2, l0_3] : List (List Int))) := ⟨_, rfl⟩; replace H : (impl_SquaresOf.l0 k y250 (y250.length : Int) 0 a0_0 a0_1 l0_2 l0_3) = some r := by first | (rw [hy250]; with_reducible exact H) | (have H2_ := (Option.bind_some _ _).symm.trans H; rw [hy250]; with_reducible exact H2_) | (have H2_ := (Option.bind_some _ _).symm.trans H; with_reducible exact H2_) | with_reducible exact H | (rw [hy250]; exact H) | exact H
 have Ny250 := Aside0.mk hy250; clear hy250; have H' := Aside0.mk H; clear H; go_enter Try.func162, Try.ntmps162; go_wp2_with (first | ((with_reducible refine gate_dst (N := 1) rfl ?_); refine bx_ (N := 1) (cs := #[.int .i64 a0_0, .int .i64 a0_1, .slice A0_2 l0_2.length c0_2, .slice A0_3 l0_3.length c0_3]) (t := 33) ?_; intro gb249 hg w2 hbox hb; replace HO0_2 := Aside0.mk (Kd.V_below (Kd.V_elderB Be_7 gb249 (Nat.le_of_eq hg.symm)) hb); replace HO0_3 := Aside0.mk (Kd.V_below (Kd.V_elderB Be_8 gb249 (Nat.le_of_eq hg.symm)) hb); have BK249 := Aside0.mk (hbox); have GW249 := gw_ hg hb_; have GE249 := gw_ hg hb_; replace HB := Aside0.mk (below_step hb_ hb); clear hb hbox hg; have hz3 := bc4_ BK249.out) | ((with_reducible refine gate_dst (N := 11) rfl ?_); refine Kd.N_lit (Kd.slice 3 (Kd.int .i64)) _ 22 ?hg (N' := 11) ?hd (xs := ([l0_2, l0_3] : List (List Int))) (inner := [.slice A0_2 l0_2.length c0_2, .slice A0_3 l0_3.length c0_3]) (ok := (fun k_ => ((P0_2_ k_ ∨ P0_3_ k_) ∨ w.heap.size ≤ k_) ∧ k_ ≠ gb249)) (okp := (fun k_ => ((P0_2_ k_ ∨ P0_3_ k_) ∨ w.heap.size ≤ k_) ∧ k_ ≠ gb249)) ?hr ?hp (fun _ hk => hk) ((show ∀ k_, w2.heap.size ≤ k_ → (fun k_ => ((P0_2_ k_ ∨ P0_3_ k_) ∨ w.heap.size ≤ k_) ∧ k_ ≠ gb249) k_ from fun k_ hk => ⟨(.inr (Nat.le_trans (below_size hb_) hk)), Kd.freshB (g := gb249) (o := .cells #[.int .i64 a0_0, .int .i64 a0_1, .slice A0_2 l0_2.length c0_2, .slice A0_3 l0_3.length c0_3] 33 (0, 0)) Be_6 k_ hk⟩) _ (Nat.le_refl _)) (Below.refl _ _) (Nat.le_refl _) (by simp) ?_; (case hd => rfl); (case hg => rfl); (case hr => first | (go_simp; done) | (go_simp; rfl)); (case hp => exact (Reps.one (show Kd.FK (Kd.slice 3 (Kd.int .i64)) _ _ l0_2 [.slice A0_2 l0_2.length c0_2] from (Kd.FK_slice_mk (Kd.V_reads' (Kd.V_mono (ok' := (fun k_ => ((P0_2_ k_ ∨ P0_3_ k_) ∨ w.heap.size ≤ k_) ∧ k_ ≠ gb249)) (HO0_2.out) (fun k_ hk => ⟨hk.1, hk.2⟩))).2.1 (Kd.V_F (Kd.V_mono (ok' := (fun k_ => ((P0_2_ k_ ∨ P0_3_ k_) ∨ w.heap.size ≤ k_) ∧ k_ ≠ gb249)) (HO0_2.out) (fun k_ hk => ⟨hk.1, hk.2⟩))))) (Reps.one (show Kd.FK (Kd.slice 3 (Kd.int .i64)) _ _ l0_3 [.slice A0_3 l0_3.length c0_3] from (Kd.FK_slice_mk (Kd.V_reads' (Kd.V_mono (ok' := (fun k_ => ((P0_2_ k_ ∨ P0_3_ k_) ∨ w.heap.size ≤ k_) ∧ k_ ≠ gb249)) (HO0_3.out) (fun k_ hk => ⟨hk.1, hk.2⟩))).2.1 (Kd.V_F (Kd.V_mono (ok' := (fun k_ => ((P0_2_ k_ ∨ P0_3_ k_) ∨ w.heap.size ≤ k_) ∧ k_ ≠ gb249)) (HO0_3.out) (fun k_ hk => ⟨hk.1, hk.2⟩))))) (Reps.none _ _)))); intro v251 w4 ho5 hb hg_ hnew_; clear hg_ hnew_; (first | rw [← Ny250.out] at ho5 | (simp only [Int.reduceToNat] at ho5; rw [← Ny250.out] at ho5)); replace HO0_2 := Aside0.mk (Kd.V_elder' Be_7 (Kd.N_base ho5) hb); replace HO0_3 := Aside0.mk (Kd.V_elder' Be_8 (Kd.N_base ho5) hb); have HO252 := Aside0.mk (Kd.N_lower ho5 (below_size hb_)); replace BK249 := bb_ BK249 hb; replace HB := Aside0.mk (below_step hb_ hb); clear hb ho5; obtain ⟨Ao6, co6, eo6⟩ := Kd.N_slice HO252.out; subst eo6))
 repeat (go_quiet (first | ((with_reducible refine gate_dst (N := 1) rfl ?_); refine bx_ (N := 1) (cs := #[.int .i64 a0_0, .int .i64 a0_1, .slice A0_2 l0_2.length c0_2, .slice A0_3 l0_3.length c0_3]) (t := 33) ?_; intro gb249 hg w2 hbox hb; replace HO0_2 := Aside0.mk (Kd.V_below (Kd.V_elderB Be_7 gb249 (Nat.le_of_eq hg.symm)) hb); replace HO0_3 := Aside0.mk (Kd.V_below (Kd.V_elderB Be_8 gb249 (Nat.le_of_eq hg.symm)) hb); have BK249 := Aside0.mk (hbox); have GW249 := gw_ hg hb_; have GE249 := gw_ hg hb_; replace HB := Aside0.mk (below_step hb_ hb); clear hb hbox hg; have hz3 := bc4_ BK249.out) | ((with_reducible refine gate_dst (N := 11) rfl ?_); refine Kd.N_lit (Kd.slice 3 (Kd.int .i64)) _ 22 ?hg (N' := 11) ?hd (xs := ([l0_2, l0_3] : List (List Int))) (inner := [.slice A0_2 l0_2.length c0_2, .slice A0_3 l0_3.length c0_3]) (ok := (fun k_ => ((P0_2_ k_ ∨ P0_3_ k_) ∨ w.heap.size ≤ k_) ∧ k_ ≠ gb249)) (okp := (fun k_ => ((P0_2_ k_ ∨ P0_3_ k_) ∨ w.heap.size ≤ k_) ∧ k_ ≠ gb249)) ?hr ?hp (fun _ hk => hk) ((show ∀ k_, w2.heap.size ≤ k_ → (fun k_ => ((P0_2_ k_ ∨ P0_3_ k_) ∨ w.heap.size ≤ k_) ∧ k_ ≠ gb249) k_ from fun k_ hk => ⟨(.inr (Nat.le_trans (below_size hb_) hk)), Kd.freshB (g := gb249) (o := .cells #[.int .i64 a0_0, .int .i64 a0_1, .slice A0_2 l0_2.length c0_2, .slice A0_3 l0_3.length c0_3] 33 (0, 0)) Be_6 k_ hk⟩) _ (Nat.le_refl _)) (Below.refl _ _) (Nat.le_refl _) (by simp) ?_; (case hd => rfl); (case hg => rfl); (case hr => first | (go_simp; done) | (go_simp; rfl)); (case hp => exact (Reps.one (show Kd.FK (Kd.slice 3 (Kd.int .i64)) _ _ l0_2 [.slice A0_2 l0_2.length c0_2] from (Kd.FK_slice_mk (Kd.V_reads' (Kd.V_mono (ok' := (fun k_ => ((P0_2_ k_ ∨ P0_3_ k_) ∨ w.heap.size ≤ k_) ∧ k_ ≠ gb249)) (HO0_2.out) (fun k_ hk => ⟨hk.1, hk.2⟩))).2.1 (Kd.V_F (Kd.V_mono (ok' := (fun k_ => ((P0_2_ k_ ∨ P0_3_ k_) ∨ w.heap.size ≤ k_) ∧ k_ ≠ gb249)) (HO0_2.out) (fun k_ hk => ⟨hk.1, hk.2⟩))))) (Reps.one (show Kd.FK (Kd.slice 3 (Kd.int .i64)) _ _ l0_3 [.slice A0_3 l0_3.length c0_3] from (Kd.FK_slice_mk (Kd.V_reads' (Kd.V_mono (ok' := (fun k_ => ((P0_2_ k_ ∨ P0_3_ k_) ∨ w.heap.size ≤ k_) ∧ k_ ≠ gb249)) (HO0_3.out) (fun k_ hk => ⟨hk.1, hk.2⟩))).2.1 (Kd.V_F (Kd.V_mono (ok' := (fun k_ => ((P0_2_ k_ ∨ P0_3_ k_) ∨ w.heap.size ≤ k_) ∧ k_ ≠ gb249)) (HO0_3.out) (fun k_ hk => ⟨hk.1, hk.2⟩))))) (Reps.none _ _)))); intro v251 w4 ho5 hb hg_ hnew_; clear hg_ hnew_; (first | rw [← Ny250.out] at ho5 | (simp only [Int.reduceToNat] at ho5; rw [← Ny250.out] at ho5)); replace HO0_2 := Aside0.mk (Kd.V_elder' Be_7 (Kd.N_base ho5) hb); replace HO0_3 := Aside0.mk (Kd.V_elder' Be_8 (Kd.N_base ho5) hb); have HO252 := Aside0.mk (Kd.N_lower ho5 (below_size hb_)); replace BK249 := bb_ BK249 hb; replace HB := Aside0.mk (below_step hb_ hb); clear hb ho5; obtain ⟨Ao6, co6, eo6⟩ := Kd.N_slice HO252.out; subst eo6)); try go_wp2_with (first | ((with_reducible refine gate_dst (N := 1) rfl ?_); refine bx_ (N := 1) (cs := #[.int .i64 a0_0, .int .i64 a0_1, .slice A0_2 l0_2.length c0_2, .slice A0_3 l0_3.length c0_3]) (t := 33) ?_; intro gb249 hg w2 hbox hb; replace HO0_2 := Aside0.mk (Kd.V_below (Kd.V_elderB Be_7 gb249 (Nat.le_of_eq hg.symm)) hb); replace HO0_3 := Aside0.mk (Kd.V_below (Kd.V_elderB Be_8 gb249 (Nat.le_of_eq hg.symm)) hb); have BK249 := Aside0.mk (hbox); have GW249 := gw_ hg hb_; have GE249 := gw_ hg hb_; replace HB := Aside0.mk (below_step hb_ hb); clear hb hbox hg; have hz3 := bc4_ BK249.out) | ((with_reducible refine gate_dst (N := 11) rfl ?_); refine Kd.N_lit (Kd.slice 3 (Kd.int .i64)) _ 22 ?hg (N' := 11) ?hd (xs := ([l0_2, l0_3] : List (List Int))) (inner := [.slice A0_2 l0_2.length c0_2, .slice A0_3 l0_3.length c0_3]) (ok := (fun k_ => ((P0_2_ k_ ∨ P0_3_ k_) ∨ w.heap.size ≤ k_) ∧ k_ ≠ gb249)) (okp := (fun k_ => ((P0_2_ k_ ∨ P0_3_ k_) ∨ w.heap.size ≤ k_) ∧ k_ ≠ gb249)) ?hr ?hp (fun _ hk => hk) ((show ∀ k_, w2.heap.size ≤ k_ → (fun k_ => ((P0_2_ k_ ∨ P0_3_ k_) ∨ w.heap.size ≤ k_) ∧ k_ ≠ gb249) k_ from fun k_ hk => ⟨(.inr (Nat.le_trans (below_size hb_) hk)), Kd.freshB (g := gb249) (o := .cells #[.int .i64 a0_0, .int .i64 a0_1, .slice A0_2 l0_2.length c0_2, .slice A0_3 l0_3.length c0_3] 33 (0, 0)) Be_6 k_ hk⟩) _ (Nat.le_refl _)) (Below.refl _ _) (Nat.le_refl _) (by simp) ?_; (case hd => rfl); (case hg => rfl); (case hr => first | (go_simp; done) | (go_simp; rfl)); (case hp => exact (Reps.one (show Kd.FK (Kd.slice 3 (Kd.int .i64)) _ _ l0_2 [.slice A0_2 l0_2.length c0_2] from (Kd.FK_slice_mk (Kd.V_reads' (Kd.V_mono (ok' := (fun k_ => ((P0_2_ k_ ∨ P0_3_ k_) ∨ w.heap.size ≤ k_) ∧ k_ ≠ gb249)) (HO0_2.out) (fun k_ hk => ⟨hk.1, hk.2⟩))).2.1 (Kd.V_F (Kd.V_mono (ok' := (fun k_ => ((P0_2_ k_ ∨ P0_3_ k_) ∨ w.heap.size ≤ k_) ∧ k_ ≠ gb249)) (HO0_2.out) (fun k_ hk => ⟨hk.1, hk.2⟩))))) (Reps.one (show Kd.FK (Kd.slice 3 (Kd.int .i64)) _ _ l0_3 [.slice A0_3 l0_3.length c0_3] from (Kd.FK_slice_mk (Kd.V_reads' (Kd.V_mono (ok' := (fun k_ => ((P0_2_ k_ ∨ P0_3_ k_) ∨ w.heap.size ≤ k_) ∧ k_ ≠ gb249)) (HO0_3.out) (fun k_ hk => ⟨hk.1, hk.2⟩))).2.1 (Kd.V_F (Kd.V_mono (ok' := (fun k_ => ((P0_2_ k_ ∨ P0_3_ k_) ∨ w.heap.size ≤ k_) ∧ k_ ≠ gb249)) (HO0_3.out) (fun k_ hk => ⟨hk.1, hk.2⟩))))) (Reps.none _ _)))); intro v251 w4 ho5 hb hg_ hnew_; clear hg_ hnew_; (first | rw [← Ny250.out] at ho5 | (simp only [Int.reduceToNat] at ho5; rw [← Ny250.out] at ho5)); replace HO0_2 := Aside0.mk (Kd.V_elder' Be_7 (Kd.N_base ho5) hb); replace HO0_3 := Aside0.mk (Kd.V_elder' Be_8 (Kd.N_base ho5) hb); have HO252 := Aside0.mk (Kd.N_lower ho5 (below_size hb_)); replace BK249 := bb_ BK249 hb; replace HB := Aside0.mk (below_step hb_ hb); clear hb ho5; obtain ⟨Ao6, co6, eo6⟩ := Kd.N_slice HO252.out; subst eo6)))
 go_loopg [13] k (fun kq v13 w' => ∃ (x13_1 : Int), v13 = .int .i64 x13_1 ∧ Aside0 (impl_SquaresOf.l0 kq y250 (y250.length : Int) x13_1 a0_0 a0_1 l0_2 l0_3 = some r) ∧ Aside0 (kq ≤ k) ∧ Aside0 (Kd.N (Kd.slice 3 (Kd.int .i64)) 22 w' w.heap.size (fun k_ => ((P0_2_ k_ ∨ P0_3_ k_) ∨ w.heap.size ≤ k_) ∧ k_ ≠ gb249) (.slice Ao6 y250.length co6) y250) ∧ Aside0 (Kd.V (Kd.int .i64) 3 w' w.heap.size (fun k_ => ((P0_2_ k_ ∨ P0_3_ k_) ∨ w.heap.size ≤ k_) ∧ some k_ ≠ ((.slice Ao6 y250.length co6) : Value).ownBlock ∧ k_ ≠ gb249) (.slice A0_2 l0_2.length c0_2) l0_2) ∧ Aside0 (Kd.V (Kd.int .i64) 3 w' w.heap.size (fun k_ => ((P0_2_ k_ ∨ P0_3_ k_) ∨ w.heap.size ≤ k_) ∧ some k_ ≠ ((.slice Ao6 y250.length co6) : Value).ownBlock ∧ k_ ≠ gb249) (.slice A0_3 l0_3.length c0_3) l0_3) ∧ Aside0 (w'.heap[gb249]? = some (.cells #[.int .i64 a0_0, .int .i64 a0_1, (.slice A0_2 l0_2.length c0_2), (.slice A0_3 l0_3.length c0_3)] 33 (0, 0))) ∧ Aside0 (Below w.heap.size w w'))
 case atStart => exact ⟨(0), Be_2, H', ⟨Nat.le_refl _⟩, ⟨(by (with_reducible repeat (first | apply Kd.N_alloc | apply Kd.N_drewN | apply Kd.N_drew)); exact HO252.out)⟩, ⟨(by (with_reducible repeat (first | apply Kd.V_alloc | apply Kd.V_drewN | apply Kd.V_drew)); exact Kd.V_mono HO0_2.out (fun _ hk => ⟨hk.1.1, ⟨hk.2, hk.1.2⟩⟩))⟩, ⟨(by (with_reducible repeat (first | apply Kd.V_alloc | apply Kd.V_drewN | apply Kd.V_drew)); exact Kd.V_mono HO0_3.out (fun _ hk => ⟨hk.1.1, ⟨hk.2, hk.1.2⟩⟩))⟩, ⟨Be_6⟩, ⟨hb_⟩⟩
 case round =>
  clear H'; try clear c1; try clear p2; try clear hz3
  obtain ⟨x13_1, rfl, HA, HK1, HO_11, HO_250002, HO_250003, BK249, HB⟩ := hrel; cases gk with
  | zero => exact absurd HA.out (by simp [impl_SquaresOf.l0])
  | succ k1 =>
   have H := HA.out; clear HA; simp only [impl_SquaresOf.l0] at H; by_cases c7 : x13_1 < (y250.length : Int)
   ·rw [if_pos c7] at H
    have c7b0 : decide (x13_1 < (y250.length : Int)) = true := decide_eq_true c7; clear c7; by_cases c8 : 0 ≤ x13_1
    ·rw [if_pos c8] at H
     have c8b0 : decide (0 ≤ x13_1) = true := decide_eq_true c8; clear c8; by_cases c9 : x13_1 < (y250.length : Int)
     ·rw [if_pos c9] at H
      have c9b0 : decide (x13_1 < (y250.length : Int)) = true := decide_eq_true c9; clear c9; replace H := Option.bind_eq_some_iff.mp H; obtain ⟨t256, A100, H⟩ := H; try dsimp only at H
      have A10 := Aside0.mk A100; clear A100; have HC11 := Aside0.mk H; clear H; have p255 : 0 ≤ (x13_1 : Int) := of_decide_eq_true Be_0; have q255 : x13_1 < (y250.length : Int) := of_decide_eq_true Be_0; obtain ⟨ad255, A255_0, c255_0, e255, hx255_0, hl255_0, hi255_0⟩ := at_L5 (Kd.N_reads' HO_11.out).2.2 x13_1 p255 q255; cases e255; obtain ⟨ce255, hce255, hMe255, hcc255⟩ := Kd.N_get HO_11.out [] x13_1 p255 (by first | exact q255 | exact of_decide_eq_true Be_0 | (have e_ := (Kd.N_reads' HO_11.out).1; omega)); obtain ⟨ua255_0, uc255_0, rfl, ul255_0, ge255_0⟩ := Kd.FK_slice_open hMe255; have hv255_0 := hcc255 0 _ rfl; rw [Nat.add_zero, show ((Kd.slice 3 (Kd.int .i64))).sz = 1 from rfl, Nat.mul_one] at hv255_0; replace hv255_0 := Option.some.inj (hv255_0.symm.trans hx255_0); injection hv255_0 with hva_ hvn_ hvc_
      rw [hva_] at ge255_0; rw [hvc_] at ul255_0; have HL255_0 := Aside0.mk (show Kd.V (Kd.int .i64) 3 _ w.heap.size _ _ (rd_L5 y250 x13_1) from Kd.V_mk ul255_0 ge255_0); clear hva_ hvn_ hvc_ ge255_0 ul255_0; clear hcc255 hce255; have HR255_0 := Aside0.mk hi255_0; have HC255_0 := Aside0.mk hl255_0; clear hi255_0 hl255_0; replace p255 := eq_true p255; replace q255 := eq_true q255; go_upto_if 20 with (first | (go_at_call 112; (with_reducible refine (impl_within.calls ((rd_L5 y250 x13_1).length : Int) 1 4 t256 _ A10.out).mono ?_); rintro e w' ⟨rfl, ⟨nd, rfl⟩⟩; (try first | exact ⟨rfl, _, World.drewN_drewN _ _ _⟩ | exact ⟨rfl, _, Eq.trans (World.drewN_drewN _ _ _) (congrArg (World.drewN _) (Nat.add_assoc _ _ _))⟩)))
      repeat (go_quiet (first | (go_at_call 112; (with_reducible refine (impl_within.calls ((rd_L5 y250 x13_1).length : Int) 1 4 t256 _ A10.out).mono ?_); rintro e w' ⟨rfl, ⟨nd, rfl⟩⟩; (try first | exact ⟨rfl, _, World.drewN_drewN _ _ _⟩ | exact ⟨rfl, _, Eq.trans (World.drewN_drewN _ _ _) (congrArg (World.drewN _) (Nat.add_assoc _ _ _))⟩))); go_upto_if 20 with (first | (go_at_call 112; (with_reducible refine (impl_within.calls ((rd_L5 y250 x13_1).length : Int) 1 4 t256 _ A10.out).mono ?_); rintro e w' ⟨rfl, ⟨nd, rfl⟩⟩; (try first | exact ⟨rfl, _, World.drewN_drewN _ _ _⟩ | exact ⟨rfl, _, Eq.trans (World.drewN_drewN _ _ _) (congrArg (World.drewN _) (Nat.add_assoc _ _ _))⟩))))
      (try simp only [Act.put, List.setIfInBounds_toArray, List.set_cons_zero, List.set_cons_succ]); have H := HC11.out; clear HC11; by_cases c12 : t256 = true
      ·subst c12
       rw [if_pos rfl] at H; have H' := Aside0.mk H; clear H; go_wp2
       repeat (go_quiet (fail); try go_wp2)
       go_loopg [23] k1 (fun kq v23 w' => ∃ (x23_2 : Int), v23 = .int .i64 x23_2 ∧ Aside0 (impl_SquaresOf.l1 kq y250 (y250.length : Int) x13_1 (rd_L5 y250 x13_1) ((rd_L5 y250 x13_1).length : Int) x23_2 a0_0 a0_1 l0_2 l0_3 = some r) ∧ Aside0 (kq ≤ k1) ∧ Aside0 (Kd.N (Kd.slice 3 (Kd.int .i64)) 22 w' w.heap.size (fun k_ => ((P0_2_ k_ ∨ P0_3_ k_) ∨ w.heap.size ≤ k_) ∧ k_ ≠ gb249) (.slice (some ad255) y250.length co6) y250) ∧ Aside0 (Kd.V (Kd.int .i64) 3 w' w.heap.size (fun k_ => ((P0_2_ k_ ∨ P0_3_ k_) ∨ w.heap.size ≤ k_) ∧ some k_ ≠ ((.slice (some ad255) y250.length co6) : Value).ownBlock ∧ k_ ≠ gb249) (.slice A0_2 l0_2.length c0_2) l0_2) ∧ Aside0 (Kd.V (Kd.int .i64) 3 w' w.heap.size (fun k_ => ((P0_2_ k_ ∨ P0_3_ k_) ∨ w.heap.size ≤ k_) ∧ some k_ ≠ ((.slice (some ad255) y250.length co6) : Value).ownBlock ∧ k_ ≠ gb249) (.slice A0_3 l0_3.length c0_3) l0_3) ∧ Aside0 (w'.heap[gb249]? = some (.cells #[.int .i64 a0_0, .int .i64 a0_1, (.slice A0_2 l0_2.length c0_2), (.slice A0_3 l0_3.length c0_3)] 33 (0, 0))) ∧ Aside0 (Kd.C (Kd.int .i64) w' A255_0 (rd_L5 y250 x13_1).length (rd_L5 y250 x13_1)) ∧ Aside0 (Below w.heap.size w w'))
       case atStart => exact ⟨(0), Be_2, H', ⟨Nat.le_refl _⟩, ⟨Be_12⟩, ⟨Be_10⟩, ⟨Be_11⟩, ⟨Be_6⟩, ⟨Be_14⟩, ⟨hb_⟩⟩
       case round =>
        clear H'; try clear c1; try clear c2; try clear p2; try clear q2; try clear hx2; try clear c7; try clear c7b0; try clear c8; try clear c8b0; try clear c9; try clear c9b0; try clear c12; try clear hz3; try clear hx255_0; try clear p255; try clear q255
        obtain ⟨x23_2, rfl, HA, HK2, HO_11, HO_250002, HO_250003, BK249, HR255_0, HB⟩ := hrel; cases gk with
        | zero => exact absurd HA.out (by simp [impl_SquaresOf.l1])
        | succ k2 =>
         have H := HA.out; clear HA; simp only [impl_SquaresOf.l1] at H; by_cases c13 : x23_2 < ((rd_L5 y250 x13_1).length : Int)
         ·rw [if_pos c13] at H
          have c13b0 : decide (x23_2 < ((rd_L5 y250 x13_1).length : Int)) = true := decide_eq_true c13; clear c13; (first | rw [c13b0] | (simp only [i64_w, i32_w]; rw [c13b0]) | skip); by_cases c14 : 0 ≤ x23_2
          ·rw [if_pos c14] at H
           have c14b0 : decide (0 ≤ x23_2) = true := decide_eq_true c14; clear c14; by_cases c15 : x23_2 < ((rd_L5 y250 x13_1).length : Int)
           ·rw [if_pos c15] at H
            have c15b0 : decide (x23_2 < ((rd_L5 y250 x13_1).length : Int)) = true := decide_eq_true c15; clear c15; replace H := Option.bind_eq_some_iff.mp H; obtain ⟨t258, A160, H⟩ := H; try dsimp only at H
            have A16 := Aside0.mk A160; clear A160; have HC17 := Aside0.mk H; clear H; have p257 : 0 ≤ (x23_2 : Int) := of_decide_eq_true Be_0; have q257 : x23_2 < ((rd_L5 y250 x13_1).length : Int) := of_decide_eq_true Be_0; obtain ⟨ad257, e257, hx257_0⟩ := Kd.at_int HR255_0.out x23_2 p257 q257; cases e257; replace p257 := eq_true p257; replace q257 := eq_true q257; go_upto_if 29 with (first | (go_at_call 112; (with_reducible refine (impl_within.calls (rd (rd_L5 y250 x13_1) x23_2) 1 8 t258 _ A16.out).mono ?_); rintro e w' ⟨rfl, ⟨nd, rfl⟩⟩; (try first | exact ⟨rfl, _, World.drewN_drewN _ _ _⟩ | exact ⟨rfl, _, Eq.trans (World.drewN_drewN _ _ _) (congrArg (World.drewN _) (Nat.add_assoc _ _ _))⟩)))
            repeat (go_quiet (first | (go_at_call 112; (with_reducible refine (impl_within.calls (rd (rd_L5 y250 x13_1) x23_2) 1 8 t258 _ A16.out).mono ?_); rintro e w' ⟨rfl, ⟨nd, rfl⟩⟩; (try first | exact ⟨rfl, _, World.drewN_drewN _ _ _⟩ | exact ⟨rfl, _, Eq.trans (World.drewN_drewN _ _ _) (congrArg (World.drewN _) (Nat.add_assoc _ _ _))⟩))); go_upto_if 29 with (first | (go_at_call 112; (with_reducible refine (impl_within.calls (rd (rd_L5 y250 x13_1) x23_2) 1 8 t258 _ A16.out).mono ?_); rintro e w' ⟨rfl, ⟨nd, rfl⟩⟩; (try first | exact ⟨rfl, _, World.drewN_drewN _ _ _⟩ | exact ⟨rfl, _, Eq.trans (World.drewN_drewN _ _ _) (congrArg (World.drewN _) (Nat.add_assoc _ _ _))⟩))))
            (try simp only [Act.put, List.setIfInBounds_toArray, List.set_cons_zero, List.set_cons_succ]); have H := HC17.out; clear HC17; by_cases c18 : t258 = true
            ·subst c18
             rw [if_pos rfl] at H; have H' := Aside0.mk H; clear H; go_wp2
             repeat (go_quiet (fail); try go_wp2)
             go_roundg k2
             case measure => have := HK1.out; have := HK2.out; omega
             case rel => exact ⟨(wrap64 (x23_2 + 1)), Be_2, H', ⟨(by have := HK1.out; have := HK2.out; omega)⟩, ⟨Be_12⟩, ⟨Be_10⟩, ⟨Be_11⟩, ⟨Be_6⟩, ⟨Be_14⟩, ⟨hb_⟩⟩
            ·replace c18 := Bool.eq_false_iff.mpr c18
             subst c18; rw [if_neg (show ¬ (false = true) by decide)] at H; obtain rfl := Option.some.inj H; go_wp2
             repeat (go_quiet (fail); try go_wp2)
             go_ret; exact ⟨Be_1, hb_⟩
           ·rw [if_neg c15] at H
            exact absurd H (by simp)
          ·rw [if_neg c14] at H
           exact absurd H (by simp)
         ·rw [if_neg c13] at H
          have c13b0 : decide (x23_2 < ((rd_L5 y250 x13_1).length : Int)) = false := decide_eq_false c13; clear c13; (first | rw [c13b0] | (simp only [i64_w, i32_w]; rw [c13b0]) | skip); have H' := Aside0.mk H; clear H; go_wp2
          repeat (go_quiet (fail); try go_wp2)
          go_roundg k2
          case measure => have := HK1.out; have := HK2.out; omega
          case rel => exact ⟨(wrap64 (x13_1 + 1)), Be_2, H', ⟨(by have := HK1.out; have := HK2.out; omega)⟩, ⟨Be_12⟩, ⟨Be_10⟩, ⟨Be_11⟩, ⟨Be_6⟩, ⟨hb_⟩⟩
      ·replace c12 := Bool.eq_false_iff.mpr c12
       subst c12; rw [if_neg (show ¬ (false = true) by decide)] at H; obtain rfl := Option.some.inj H; go_wp2
       repeat (go_quiet (fail); try go_wp2)
       go_ret; exact ⟨Be_1, hb_⟩
     ·rw [if_neg c9] at H
      exact absurd H (by simp)
    ·rw [if_neg c8] at H
     exact absurd H (by simp)
   ·rw [if_neg c7] at H
    have c7b0 : decide (x13_1 < (y250.length : Int)) = false := decide_eq_false c7; clear c7; replace H := Option.bind_eq_some_iff.mp H; obtain ⟨t253, A190, H⟩ := H; try dsimp only at H
    have A19 := Aside0.mk A190; clear A190; replace H := Option.bind_eq_some_iff.mp H; obtain ⟨t254, A200, H⟩ := H; try dsimp only at H
    have A20 := Aside0.mk A200; clear A200; obtain rfl := Option.some.inj H; have hz21 := bc4_ BK249.out; go_wp2_with (first | (go_at_call 204; (with_reducible refine (impl_sumOf.calls k1 _ _ l0_2 t253 _ ?side1 ?side2 A19.out).mono ?_); (case side1 => repeat (first | exact (Kd.V_reads' HO_250002.out).2.2 | (with_reducible refine Kd.C_alloc ?_ _) | (with_reducible refine Kd.C_drewN ?_ _) | (with_reducible refine Kd.C_drew ?_))); (case side2 => exact (Kd.V_reads' HO_250002.out).2.1); rintro e w' ⟨rfl, ⟨nd, rfl⟩⟩; (try first | exact ⟨rfl, _, World.drewN_drewN _ _ _⟩ | exact ⟨rfl, _, Eq.trans (World.drewN_drewN _ _ _) (congrArg (World.drewN _) (Nat.add_assoc _ _ _))⟩)) | (go_at_call 204; (with_reducible refine (impl_sumOf.calls k1 _ _ l0_3 t254 _ ?side1 ?side2 A20.out).mono ?_); (case side1 => repeat (first | exact (Kd.V_reads' HO_250003.out).2.2 | (with_reducible refine Kd.C_alloc ?_ _) | (with_reducible refine Kd.C_drewN ?_ _) | (with_reducible refine Kd.C_drew ?_))); (case side2 => exact (Kd.V_reads' HO_250003.out).2.1); rintro e w' ⟨rfl, ⟨nd, rfl⟩⟩; (try first | exact ⟨rfl, _, World.drewN_drewN _ _ _⟩ | exact ⟨rfl, _, Eq.trans (World.drewN_drewN _ _ _) (congrArg (World.drewN _) (Nat.add_assoc _ _ _))⟩)))
    repeat (go_quiet (first | (go_at_call 204; (with_reducible refine (impl_sumOf.calls k1 _ _ l0_2 t253 _ ?side1 ?side2 A19.out).mono ?_); (case side1 => repeat (first | exact (Kd.V_reads' HO_250002.out).2.2 | (with_reducible refine Kd.C_alloc ?_ _) | (with_reducible refine Kd.C_drewN ?_ _) | (with_reducible refine Kd.C_drew ?_))); (case side2 => exact (Kd.V_reads' HO_250002.out).2.1); rintro e w' ⟨rfl, ⟨nd, rfl⟩⟩; (try first | exact ⟨rfl, _, World.drewN_drewN _ _ _⟩ | exact ⟨rfl, _, Eq.trans (World.drewN_drewN _ _ _) (congrArg (World.drewN _) (Nat.add_assoc _ _ _))⟩)) | (go_at_call 204; (with_reducible refine (impl_sumOf.calls k1 _ _ l0_3 t254 _ ?side1 ?side2 A20.out).mono ?_); (case side1 => repeat (first | exact (Kd.V_reads' HO_250003.out).2.2 | (with_reducible refine Kd.C_alloc ?_ _) | (with_reducible refine Kd.C_drewN ?_ _) | (with_reducible refine Kd.C_drew ?_))); (case side2 => exact (Kd.V_reads' HO_250003.out).2.1); rintro e w' ⟨rfl, ⟨nd, rfl⟩⟩; (try first | exact ⟨rfl, _, World.drewN_drewN _ _ _⟩ | exact ⟨rfl, _, Eq.trans (World.drewN_drewN _ _ _) (congrArg (World.drewN _) (Nat.add_assoc _ _ _))⟩))); try go_wp2_with (first | (go_at_call 204; (with_reducible refine (impl_sumOf.calls k1 _ _ l0_2 t253 _ ?side1 ?side2 A19.out).mono ?_); (case side1 => repeat (first | exact (Kd.V_reads' HO_250002.out).2.2 | (with_reducible refine Kd.C_alloc ?_ _) | (with_reducible refine Kd.C_drewN ?_ _) | (with_reducible refine Kd.C_drew ?_))); (case side2 => exact (Kd.V_reads' HO_250002.out).2.1); rintro e w' ⟨rfl, ⟨nd, rfl⟩⟩; (try first | exact ⟨rfl, _, World.drewN_drewN _ _ _⟩ | exact ⟨rfl, _, Eq.trans (World.drewN_drewN _ _ _) (congrArg (World.drewN _) (Nat.add_assoc _ _ _))⟩)) | (go_at_call 204; (with_reducible refine (impl_sumOf.calls k1 _ _ l0_3 t254 _ ?side1 ?side2 A20.out).mono ?_); (case side1 => repeat (first | exact (Kd.V_reads' HO_250003.out).2.2 | (with_reducible refine Kd.C_alloc ?_ _) | (with_reducible refine Kd.C_drewN ?_ _) | (with_reducible refine Kd.C_drew ?_))); (case side2 => exact (Kd.V_reads' HO_250003.out).2.1); rintro e w' ⟨rfl, ⟨nd, rfl⟩⟩; (try first | exact ⟨rfl, _, World.drewN_drewN _ _ _⟩ | exact ⟨rfl, _, Eq.trans (World.drewN_drewN _ _ _) (congrArg (World.drewN _) (Nat.add_assoc _ _ _))⟩))))
    go_ret; exact ⟨Be_1, hb_⟩
end Go.Proofs.Ytbjambmdononiaa.PFnExactPictureParts
namespace Go.Proofs.Ytbjambmdononiaa.PFnExactPictureParts
open Go.RowKit Go.Proofs.YtbjambmdononiaaW.PrintWords Go.Proofs.YtbjambmdononiaaW.PrintLast Go.Proofs.YtbjambmdononiaaW.PrintMore
attribute [local go_sem] max2_int min2_int max_two min_two max_three min_three max_four min_four
set_option linter.unusedVariables false
set_option linter.unusedSimpArgs false
def impl_LevelSquares.f (a0 : Int) : Option (Int) := (impl_within.f a0 1 3).bind fun t259 => (if t259 = true then ((some (([16, 64, 256] : List Int) : List Int)).bind fun y260 => (if 0 ≤ (wrap64 (a0 - 1)) then (if (wrap64 (a0 - 1)) < (y260.length : Int) then (some (rd y260 (wrap64 (a0 - 1)))) else (none)) else (none))) else (some 0))
set_option maxHeartbeats 8000000 in
set_option maxRecDepth 100000 in
theorem impl_LevelSquares.calls (a0 : Int) (r : Int) (w : World) (h : impl_LevelSquares.f a0 = some r) :
  Calls Try.prog 163 #[.int .i64 a0] w fun e w' => e = .returned (.int .i64 r) ∧ Below w.heap.size w w' := by
 have HB := Aside0.mk (Below.refl w.heap.size w); have H : ((impl_within.f a0 1 3).bind fun t259 => (if t259 = true then ((some (([16, 64, 256] : List Int) : List Int)).bind fun y260 => (if 0 ≤ (wrap64 (a0 - 1)) then (if (wrap64 (a0 - 1)) < (y260.length : Int) then (some (rd y260 (wrap64 (a0 - 1)))) else (none)) else (none))) else (some 0))) = some r := h; clear h; replace H := Option.bind_eq_some_iff.mp H; obtain ⟨t259, A20, H⟩ := H; try dsimp only at H
 have A2 := Aside0.mk A20; clear A20; have HC3 := Aside0.mk H; clear H; go_enter Try.func163, Try.ntmps163; go_upto_if 5 with (first | ((with_reducible refine gate_callee (f := 112) rfl ?_); refine gA_ (some 4) Try.func112 (impl_within.calls _ _ _ _ _ A2.out) ?_; rintro e w' ⟨rfl, ⟨nd, rfl⟩⟩; refine ⟨_, rfl, ?_⟩))
 (try simp only [Act.put, List.setIfInBounds_toArray, List.set_cons_zero, List.set_cons_succ]); have H := HC3.out; clear HC3; by_cases c4 : t259 = true
 ·subst c4
  rw [if_pos rfl] at H; obtain ⟨y260, hy260⟩ : ∃ y_ : List Int, y_ = (([16, 64, 256] : List Int)) := ⟨_, rfl⟩; replace H : (if 0 ≤ (wrap64 (a0 - 1)) then (if (wrap64 (a0 - 1)) < (y260.length : Int) then (some (rd y260 (wrap64 (a0 - 1)))) else (none)) else (none)) = some r := by first | (rw [hy260]; with_reducible exact H) | (have H2_ := (Option.bind_some _ _).symm.trans H; rw [hy260]; with_reducible exact H2_) | (have H2_ := (Option.bind_some _ _).symm.trans H; with_reducible exact H2_) | with_reducible exact H | (rw [hy260]; exact H) | exact H
  have Ny260 := Aside0.mk hy260; clear hy260; obtain ⟨ji5, hji5⟩ : ∃ j_ : Int, (wrap64 (a0 - 1)) = j_ := ⟨_, rfl⟩; (first | rw [hji5] at H | simp only [hji5] at H); have hji5w : (IntKind.i64.wrap (a0 - 1)) = ji5 := (i64_w _).trans hji5; by_cases c6 : 0 ≤ (ji5)
  ·rw [if_pos c6] at H
   have c6b0 : decide (0 ≤ (ji5)) = true := decide_eq_true c6; clear c6; (first | rw [c6b0] | (simp only [i64_w, i32_w]; rw [c6b0]) | skip); by_cases c7 : (ji5) < (y260.length : Int)
   ·rw [if_pos c7] at H
    have c7b0 : decide ((ji5) < (y260.length : Int)) = true := decide_eq_true c7; clear c7; obtain rfl := Option.some.inj H; go_wp2_with (first | ((with_reducible refine gate_dst (N := 6) rfl ?_); refine Kd.R_lit (Kd.int .i64) _ 3 ?hg (N := 6) ?hd (xs := ([16, 64, 256] : List Int)) (inner := [.int .i64 16, .int .i64 64, .int .i64 256]) (ok := fun _ => True) (okp := fun _ => True) ?hr ?hp (fun _ hk => hk) trivial (Below.refl _ _) (Nat.le_refl _) (by simp) ?_; (case hd => rfl); (case hg => rfl); (case hr => first | (go_simp; done) | (go_simp; rfl)); (case hp => exact (Reps.one (show Kd.M (Kd.int .i64) _ _ _ 16 [.int .i64 16] from rfl) (Reps.one (show Kd.M (Kd.int .i64) _ _ _ 64 [.int .i64 64] from rfl) (Reps.one (show Kd.M (Kd.int .i64) _ _ _ 256 [.int .i64 256] from rfl) (Reps.none _ _))))); intro v261 w8 ho9 hb hg_ hnew_; clear hg_ hnew_; (first | rw [← Ny260.out] at ho9 | (simp only [Int.reduceToNat] at ho9; rw [← Ny260.out] at ho9)); have HO262 := Aside0.mk (Kd.R_lower ho9 (below_size hb_)); replace HB := Aside0.mk (below_step hb_ hb); clear hb ho9; obtain ⟨Ao10, co10, eo10⟩ := Kd.R_slice HO262.out; subst eo10; have p263 : 0 ≤ ((ji5) : Int) := of_decide_eq_true Be_0; have q263 : (ji5) < (y260.length : Int) := of_decide_eq_true Be_0; obtain ⟨ad263, e263, hx263_0⟩ := Kd.at_int (Kd.R_reads' HO262.out).2.2 (ji5) p263 q263; cases e263; replace p263 := eq_true p263; replace q263 := eq_true q263)); go_ret; exact ⟨(by first | rfl | (simp [errW_none, errW_some] <;> rfl) | (simp only [← hji5]; first | rfl | (simp [errW_none, errW_some] <;> rfl)) | (simp [*, errW_none, errW_some] <;> rfl)), hb_⟩
   ·rw [if_neg c7] at H
    exact absurd H (by simp)
  ·rw [if_neg c6] at H
   exact absurd H (by simp)
 ·replace c4 := Bool.eq_false_iff.mpr c4
  subst c4; rw [if_neg (show ¬ (false = true) by decide)] at H; obtain rfl := Option.some.inj H; go_wp2; go_ret; exact ⟨Be_1, hb_⟩
end Go.Proofs.Ytbjambmdononiaa.PFnExactPictureParts
namespace Go.Proofs.Ytbjambmdononiaa.PFnExactPictureParts
open Go.RowKit Go.Proofs.YtbjambmdononiaaW.PrintWords Go.Proofs.YtbjambmdononiaaW.PrintLast Go.Proofs.YtbjambmdononiaaW.PrintMore
attribute [local go_sem] max2_int min2_int max_two min_two max_three min_three max_four min_four
set_option linter.unusedVariables false
set_option linter.unusedSimpArgs false
def impl_SeqOk.f (k : Nat) (a0_0 : Int) (a0_1 : Int) (l0_2 : List Int) (l0_3 : List Int) : Option (Bool) := (impl_SquaresOf.f k a0_0 a0_1 l0_2 l0_3).bind fun t265 => ((impl_LevelSquares.f a0_0).bind fun t266 => ((impl_within.f t265 1 t266).bind fun t267 => (if t267 = true then ((impl_within.f a0_1 3 8).bind fun t268 => (some t268)) else (some false))))
theorem impl_SeqOk.mono : ∀ a0 a1 a2 a3 k, LeO (impl_SeqOk.f k a0 a1 a2 a3) (impl_SeqOk.f (k + 1) a0 a1 a2 a3) := by
 intro a0 a1 a2 a3 k; unfold impl_SeqOk.f
 repeat' first
   | (with_reducible exact impl_SquaresOf.mono _ _ _ _ _)
   | (with_reducible exact LeO.refl _)
   | (with_reducible exact LeO.none _)
   | (with_reducible refine LeO.ite ?_ ?_)
   | (with_reducible refine LeO.bind ?_ (fun _ => ?_))
   | exact impl_SquaresOf.mono _ _ _ _ _
   | exact LeO.none _
   | refine LeO.ite ?_ ?_
   | refine LeO.bind ?_ (fun _ => ?_)
def impl_SeqOk.T1 : Bool × List (List Nat × List Nat) := (true, [([], []), ([0], [0]), ([], []), ([2], [2]), ([3, 1], [3]), ([1, 4, 4], [1, 4]), ([5, 5], [5]), ([6], [6]), ([7, 6], [6, 7]), ([8, 6, 6], [6, 8]), ([6, 9], [6, 9]), ([10, 9, 0, 1, 2, 3, 4, 5, 6, 7, 8, 9, 10], [10])])
def impl_SeqOk.B1 : List Nat := [0, 1, 0, 4, 15, 31, 63, 127, 255, 511, 1023, 2047]
theorem impl_SeqOk.tab1 : rtab .any (opsOf Try.f77 1) = impl_SeqOk.T1 := by kernel_rfl
theorem impl_SeqOk.bits1 : waitsOk impl_SeqOk.T1.2 impl_SeqOk.B1 = true := by kernel_rfl
set_option maxHeartbeats 8000000 in
set_option maxRecDepth 100000 in
theorem impl_SeqOk.calls (k : Nat) (a0_0 : Int) (a0_1 : Int) (A0_2 : Option Addr) (c0_2 : Nat) (l0_2 : List Int) (A0_3 : Option Addr) (c0_3 : Nat) (l0_3 : List Int) (r : Bool) (w : World) (hr0_2 : Kd.C (Kd.int .i64) w A0_2 l0_2.length l0_2) (hc0_2 : l0_2.length ≤ c0_2) (hr0_3 : Kd.C (Kd.int .i64) w A0_3 l0_3.length l0_3) (hc0_3 : l0_3.length ≤ c0_3) (h : impl_SeqOk.f k a0_0 a0_1 l0_2 l0_3 = some r) :
  Calls Try.prog 77 #[.agg #[.int .i64 a0_0, .int .i64 a0_1, .slice A0_2 l0_2.length c0_2, .slice A0_3 l0_3.length c0_3]] w fun e w' => e = .returned (.bool r) ∧ Below w.heap.size w w' := by
 have hu33 := Try.underlying33; have HR0_2 := Aside0.mk hr0_2; have HC0_2 := Aside0.mk hc0_2; clear hr0_2 hc0_2; have HR0_3 := Aside0.mk hr0_3; have HC0_3 := Aside0.mk hc0_3; clear hr0_3 hc0_3; have HB := Aside0.mk (Below.refl w.heap.size w); have H : ((impl_SquaresOf.f k a0_0 a0_1 l0_2 l0_3).bind fun t265 => ((impl_LevelSquares.f a0_0).bind fun t266 => ((impl_within.f t265 1 t266).bind fun t267 => (if t267 = true then ((impl_within.f a0_1 3 8).bind fun t268 => (some t268)) else (some false))))) = some r := h; clear h; replace H := Option.bind_eq_some_iff.mp H; obtain ⟨t265, A20, H⟩ := H; try dsimp only at H
 have A2 := Aside0.mk A20; clear A20; replace H := Option.bind_eq_some_iff.mp H; obtain ⟨t266, A30, H⟩ := H; try dsimp only at H
 have A3 := Aside0.mk A30; clear A30; replace H := Option.bind_eq_some_iff.mp H; obtain ⟨t267, A40, H⟩ := H; try dsimp only at H
 have A4 := Aside0.mk A40; clear A40; by_cases c5 : t267 = true
 ·subst c5
  rw [if_pos rfl] at H; replace H := Option.bind_eq_some_iff.mp H; obtain ⟨t268, A60, H⟩ := H; try dsimp only at H
  have A6 := Aside0.mk A60; clear A60; obtain rfl := Option.some.inj H; go_enter Try.func77, Try.ntmps77; try go_wp2_with (first | ((with_reducible refine gate_dst (N := 1) rfl ?_); refine bx_ (N := 1) (cs := #[.int .i64 a0_0, .int .i64 a0_1, .slice A0_2 l0_2.length c0_2, .slice A0_3 l0_3.length c0_3]) (t := 33) ?_; intro gb264 hg w7 hbox hb; have BK264 := Aside0.mk (hbox); have GW264 := gw_ hg hb_; have GE264 := gw_ hg hb_; replace HB := Aside0.mk (below_step hb_ hb); clear hb hbox hg))
  replace BK264 := Aside0.mk (blk_drew BK264.out); replace HB := Aside0.mk (below_drew1 HB.out); refine start_ (n := 12) (S := fun w' => w'.cell? ⟨gb264, 0, none⟩ = some (.int .i64 a0_0) ∧ w'.cell? ⟨gb264, 1, none⟩ = some (.int .i64 a0_1) ∧ w'.cell? ⟨gb264, 2, none⟩ = some (.slice A0_2 l0_2.length c0_2) ∧ w'.cell? ⟨gb264, 3, none⟩ = some (.slice A0_3 l0_3.length c0_3)) (ds := []) u12_0 (by kernel_rfl) rfl rfl ⟨(blk_cell BK264.out 0).trans rfl, (blk_cell BK264.out 1).trans rfl, (blk_cell BK264.out 2).trans rfl, (blk_cell BK264.out 3).trans rfl⟩ (fun hHeld => ?_); refine with_tabW impl_SeqOk.tab1 impl_SeqOk.bits1 (fun HT_ HW_ => ?_); generalize w7.drew = w8 at BK264 HB hHeld ⊢
  refine pu_ HT_.out 2 (some 5) u12_200x ?_; refine take_ (i := 0) (N := some 3) (v := ?_) (a' := ?_) u12_a00x rfl rfl (take_ofW HT_.out HW_.out (by kernel_rfl)) (fun _ _ _ h => h) (Or.inl ⟨(by rfl), ?_⟩) hHeld ?_ ?_; rotate_left
  ·rintro w' ⟨s0, s1, s2, s3⟩
   go_simp; with_reducible rfl
  rotate_left
  ·simp only [Act.put, List.setIfInBounds_toArray, List.set_cons_zero, List.set_cons_succ, i64_w, i32_w]
   rfl
  refine take_ (i := 3) (N := some 6) (v := ?_) (a' := ?_) u12_b00x rfl rfl (take_ofW HT_.out HW_.out (by kernel_rfl)) (fun _ _ _ h => h) (Or.inl ⟨(by rfl), ?_⟩) hHeld ?_ ?_; rotate_left
  ·rintro w' ⟨s0, s1, s2, s3⟩
   go_simp; with_reducible rfl
  rotate_left
  ·simp only [Act.put, List.setIfInBounds_toArray, List.set_cons_zero, List.set_cons_succ, i64_w, i32_w]
   rfl
  refine one_ (i := 1) (N := some 4) u12_4 rfl rfl (one_of HT_.out (by kernel_rfl)) (by decide) (fun K hK => ?_); refine goes_ Try.func162 (by kernel_rfl) rfl #[.agg #[.int .i64 a0_0, .int .i64 a0_1, .slice A0_2 l0_2.length c0_2, .slice A0_3 l0_3.length c0_3]] (by rfl) rfl rfl Be_4 ?_; with_reducible refine (impl_SquaresOf.calls k a0_0 a0_1 (fun k_ => k_ < w.heap.size) _ _ l0_2 (fun k_ => k_ < w.heap.size) _ _ l0_3 t265 _ ?side1 ?side2 A2.out).mono ?_
  (case side1 => exact Kd.V_mk HC0_2.out (Kd.F_below (Kd.C_F (Kd.heap_int .i64) HR0_2.out) hb_)); (case side2 => exact Kd.V_mk HC0_3.out (Kd.F_below (Kd.C_F (Kd.heap_int .i64) HR0_3.out) hb_)); rintro e w9 ⟨rfl, hb⟩; refine ⟨_, rfl, ?_⟩; replace BK264 := bb_ BK264 hb; replace HB := Aside0.mk (below_step hb_ hb); (try clear hb); (try clear hb2); (try clear hk); (try clear hi); refine hK.out _ _ Be_3 (fun hHeld => ?_); clear hK K; refine no_ ?_; refine one_ (i := 4) (N := some 7) u12_5 rfl rfl (one_of HT_.out (by kernel_rfl)) (by decide) (fun K hK => ?_); refine goes_ Try.func163 (by kernel_rfl) rfl #[.int .i64 a0_0] (by rfl) rfl rfl Be_4 ?_; with_reducible refine (impl_LevelSquares.calls a0_0 t266 _ A3.out).mono ?_
  rintro e w10 ⟨rfl, hb⟩; refine ⟨_, rfl, ?_⟩; replace BK264 := bb_ BK264 hb; replace HB := Aside0.mk (below_step hb_ hb); (try clear hb); (try clear hb2); (try clear hk); (try clear hi); refine hK.out _ _ Be_3 (fun hHeld => ?_); clear hK K; refine no_ ?_; refine one_ (i := 5) (N := some 8) u12_6 rfl rfl (one_of HT_.out (by kernel_rfl)) (by decide) (fun K hK => ?_); refine goes_ Try.func112 (by kernel_rfl) rfl #[.int .i64 t265, .int .i64 1, .int .i64 t266] (by rfl) rfl rfl Be_4 ?_; with_reducible refine (impl_within.calls t265 1 t266 true _ A4.out).mono ?_
  rintro e w' ⟨rfl, ⟨nd, rfl⟩⟩; refine ⟨_, rfl, ?_⟩; refine hK.out _ _ Be_3 (fun hHeld => ?_); clear hK K; refine no_ ?_; refine pu_ HT_.out 6 (some 9) u12_7 ?_; refine pu_ HT_.out 7 (some 10) u12_8 ?_; refine take_ (i := 8) (N := some 11) (v := ?_) (a' := ?_) u12_9 rfl rfl (take_ofW HT_.out HW_.out (by kernel_rfl)) (fun _ _ _ h => h) (Or.inl ⟨(by rfl), ?_⟩) hHeld ?_ ?_; rotate_left
  ·rintro w' ⟨s0, s1, s2, s3⟩
   go_simp; with_reducible rfl
  rotate_left
  ·simp only [Act.put, List.setIfInBounds_toArray, List.set_cons_zero, List.set_cons_succ, i64_w, i32_w]
   rfl
  refine one_ (i := 9) (N := some 12) u12_10 rfl rfl (one_of HT_.out (by kernel_rfl)) (by decide) (fun K hK => ?_); refine goes_ Try.func112 (by kernel_rfl) rfl #[.int .i64 a0_1, .int .i64 3, .int .i64 8] (by rfl) rfl rfl Be_4 ?_; with_reducible refine (impl_within.calls a0_1 3 8 t268 _ A6.out).mono ?_
  rintro e w' ⟨rfl, ⟨nd, rfl⟩⟩; refine ⟨_, rfl, ?_⟩; refine hK.out _ _ Be_3 (fun hHeld => ?_); clear hK K; refine no_ ?_; refine pu_ HT_.out 10 (some 13) u12_11 ?_; refine pu_ HT_.out 11 (some 2) u12_12 ?_; refine done_ (done_of HT_.out (by kernel_rfl)) ?_; try go_wp2
  go_ret; exact ⟨Be_1, hb_⟩
 ·replace c5 := Bool.eq_false_iff.mpr c5
  subst c5; rw [if_neg (show ¬ (false = true) by decide)] at H; obtain rfl := Option.some.inj H; go_enter Try.func77, Try.ntmps77; try go_wp2_with (first | ((with_reducible refine gate_dst (N := 1) rfl ?_); refine bx_ (N := 1) (cs := #[.int .i64 a0_0, .int .i64 a0_1, .slice A0_2 l0_2.length c0_2, .slice A0_3 l0_3.length c0_3]) (t := 33) ?_; intro gb264 hg w11 hbox hb; have BK264 := Aside0.mk (hbox); have GW264 := gw_ hg hb_; have GE264 := gw_ hg hb_; replace HB := Aside0.mk (below_step hb_ hb); clear hb hbox hg))
  replace BK264 := Aside0.mk (blk_drew BK264.out); replace HB := Aside0.mk (below_drew1 HB.out); refine start_ (n := 12) (S := fun w' => w'.cell? ⟨gb264, 0, none⟩ = some (.int .i64 a0_0) ∧ w'.cell? ⟨gb264, 1, none⟩ = some (.int .i64 a0_1) ∧ w'.cell? ⟨gb264, 2, none⟩ = some (.slice A0_2 l0_2.length c0_2) ∧ w'.cell? ⟨gb264, 3, none⟩ = some (.slice A0_3 l0_3.length c0_3)) (ds := []) u12_0 (by kernel_rfl) rfl rfl ⟨(blk_cell BK264.out 0).trans rfl, (blk_cell BK264.out 1).trans rfl, (blk_cell BK264.out 2).trans rfl, (blk_cell BK264.out 3).trans rfl⟩ (fun hHeld => ?_); refine with_tabW impl_SeqOk.tab1 impl_SeqOk.bits1 (fun HT_ HW_ => ?_); generalize w11.drew = w12 at BK264 HB hHeld ⊢
  refine pu_ HT_.out 2 (some 5) u12_200x ?_; refine take_ (i := 0) (N := some 3) (v := ?_) (a' := ?_) u12_a00x rfl rfl (take_ofW HT_.out HW_.out (by kernel_rfl)) (fun _ _ _ h => h) (Or.inl ⟨(by rfl), ?_⟩) hHeld ?_ ?_; rotate_left
  ·rintro w' ⟨s0, s1, s2, s3⟩
   go_simp; with_reducible rfl
  rotate_left
  ·simp only [Act.put, List.setIfInBounds_toArray, List.set_cons_zero, List.set_cons_succ, i64_w, i32_w]
   rfl
  refine take_ (i := 3) (N := some 6) (v := ?_) (a' := ?_) u12_b00x rfl rfl (take_ofW HT_.out HW_.out (by kernel_rfl)) (fun _ _ _ h => h) (Or.inl ⟨(by rfl), ?_⟩) hHeld ?_ ?_; rotate_left
  ·rintro w' ⟨s0, s1, s2, s3⟩
   go_simp; with_reducible rfl
  rotate_left
  ·simp only [Act.put, List.setIfInBounds_toArray, List.set_cons_zero, List.set_cons_succ, i64_w, i32_w]
   rfl
  refine one_ (i := 1) (N := some 4) u12_4 rfl rfl (one_of HT_.out (by kernel_rfl)) (by decide) (fun K hK => ?_); refine goes_ Try.func162 (by kernel_rfl) rfl #[.agg #[.int .i64 a0_0, .int .i64 a0_1, .slice A0_2 l0_2.length c0_2, .slice A0_3 l0_3.length c0_3]] (by rfl) rfl rfl Be_4 ?_; with_reducible refine (impl_SquaresOf.calls k a0_0 a0_1 (fun k_ => k_ < w.heap.size) _ _ l0_2 (fun k_ => k_ < w.heap.size) _ _ l0_3 t265 _ ?side1 ?side2 A2.out).mono ?_
  (case side1 => exact Kd.V_mk HC0_2.out (Kd.F_below (Kd.C_F (Kd.heap_int .i64) HR0_2.out) hb_)); (case side2 => exact Kd.V_mk HC0_3.out (Kd.F_below (Kd.C_F (Kd.heap_int .i64) HR0_3.out) hb_)); rintro e w13 ⟨rfl, hb⟩; refine ⟨_, rfl, ?_⟩; replace BK264 := bb_ BK264 hb; replace HB := Aside0.mk (below_step hb_ hb); (try clear hb); (try clear hb2); (try clear hk); (try clear hi); refine hK.out _ _ Be_3 (fun hHeld => ?_); clear hK K; refine no_ ?_; refine one_ (i := 4) (N := some 7) u12_5 rfl rfl (one_of HT_.out (by kernel_rfl)) (by decide) (fun K hK => ?_); refine goes_ Try.func163 (by kernel_rfl) rfl #[.int .i64 a0_0] (by rfl) rfl rfl Be_4 ?_; with_reducible refine (impl_LevelSquares.calls a0_0 t266 _ A3.out).mono ?_
  rintro e w14 ⟨rfl, hb⟩; refine ⟨_, rfl, ?_⟩; replace BK264 := bb_ BK264 hb; replace HB := Aside0.mk (below_step hb_ hb); (try clear hb); (try clear hb2); (try clear hk); (try clear hi); refine hK.out _ _ Be_3 (fun hHeld => ?_); clear hK K; refine no_ ?_; refine one_ (i := 5) (N := some 8) u12_6 rfl rfl (one_of HT_.out (by kernel_rfl)) (by decide) (fun K hK => ?_); refine goes_ Try.func112 (by kernel_rfl) rfl #[.int .i64 t265, .int .i64 1, .int .i64 t266] (by rfl) rfl rfl Be_4 ?_; with_reducible refine (impl_within.calls t265 1 t266 false _ A4.out).mono ?_
  rintro e w' ⟨rfl, ⟨nd, rfl⟩⟩; refine ⟨_, rfl, ?_⟩; refine hK.out _ _ Be_3 (fun hHeld => ?_); clear hK K; refine no_ ?_; refine pu_ HT_.out 6 (some 9) u12_7 ?_; refine pz_ HT_.out 7 (some 10) u12_8 ?_; refine pz_ HT_.out 8 (some 11) u12_9 ?_; refine pz_ HT_.out 9 (some 12) u12_10 ?_; refine pu_ HT_.out 10 (some 13) u12_11 ?_; refine pu_ HT_.out 11 (some 2) u12_12 ?_; refine done_ (done_of HT_.out (by kernel_rfl)) ?_; try go_wp2
  go_ret; exact ⟨Be_1, hb_⟩
end Go.Proofs.Ytbjambmdononiaa.PFnExactPictureParts
namespace Go.Proofs.Ytbjambmdononiaa.PFnExactPictureParts
open Go.RowKit Go.Proofs.YtbjambmdononiaaW.PrintWords Go.Proofs.YtbjambmdononiaaW.PrintLast Go.Proofs.YtbjambmdononiaaW.PrintMore
attribute [local go_sem] max2_int min2_int max_two min_two max_three min_three max_four min_four
set_option linter.unusedVariables false
set_option linter.unusedSimpArgs false
def impl_ParOk.f (a0_0 : Int) (a0_1 : Bool) (a0_2 : Bool) (a0_3 : Bool) : Option (Bool) := (impl_within.f a0_0 0 40).bind fun t270 => (if t270 = true then (if a0_1 = true then (some (!a0_2)) else (some (!false))) else (some false))
set_option maxHeartbeats 8000000 in
set_option maxRecDepth 100000 in
theorem impl_ParOk.calls (a0_0 : Int) (a0_1 : Bool) (a0_2 : Bool) (a0_3 : Bool) (r : Bool) (w : World) (h : impl_ParOk.f a0_0 a0_1 a0_2 a0_3 = some r) :
  Calls Try.prog 78 #[.agg #[.int .i64 a0_0, .bool a0_1, .bool a0_2, .bool a0_3]] w fun e w' => e = .returned (.bool r) ∧ Below w.heap.size w w' := by
 have hu35 := Try.underlying35; have HB := Aside0.mk (Below.refl w.heap.size w); have H : ((impl_within.f a0_0 0 40).bind fun t270 => (if t270 = true then (if a0_1 = true then (some (!a0_2)) else (some (!false))) else (some false))) = some r := h; clear h; have HC2 := Aside0.mk H; clear H; go_enter Try.func78, Try.ntmps78; go_upto_region 1 with (first | ((with_reducible refine gate_dst (N := 1) rfl ?_); refine bx_ (N := 1) (cs := #[.int .i64 a0_0, .bool a0_1, .bool a0_2, .bool a0_3]) (t := 35) ?_; intro gb269 hg w3 hbox hb; have BK269 := Aside0.mk (hbox); have GW269 := gw_ hg hb_; have GE269 := gw_ hg hb_; replace HB := Aside0.mk (below_step hb_ hb); clear hb hbox hg))
 (try simp only [Act.put, List.setIfInBounds_toArray, List.set_cons_zero, List.set_cons_succ]); have H := HC2.out; clear HC2; replace H := Option.bind_eq_some_iff.mp H; obtain ⟨t270, A40, H⟩ := H; try dsimp only at H
 have A4 := Aside0.mk A40; clear A40; by_cases c5 : t270 = true
 ·subst c5
  rw [if_pos rfl] at H; by_cases c6 : a0_1 = true
  ·subst c6
   rw [if_pos rfl] at H; obtain rfl := Option.some.inj H; have hz7 := bc4_ BK269.out; go_wp2_with (first | ((with_reducible refine gate_callee (f := 112) rfl ?_); refine gA_ (some 5) Try.func112 (impl_within.calls _ _ _ _ _ A4.out) ?_; rintro e w' ⟨rfl, ⟨nd, rfl⟩⟩; refine ⟨_, rfl, ?_⟩)); go_ret; exact ⟨Be_1, hb_⟩
  ·replace c6 := Bool.eq_false_iff.mpr c6
   subst c6; rw [if_neg (show ¬ (false = true) by decide)] at H; obtain rfl := Option.some.inj H; have hz8 := bc4_ BK269.out; go_wp2_with (first | ((with_reducible refine gate_callee (f := 112) rfl ?_); refine gA_ (some 5) Try.func112 (impl_within.calls _ _ _ _ _ A4.out) ?_; rintro e w' ⟨rfl, ⟨nd, rfl⟩⟩; refine ⟨_, rfl, ?_⟩)); go_ret; exact ⟨Be_1, hb_⟩
 ·replace c5 := Bool.eq_false_iff.mpr c5
  subst c5; rw [if_neg (show ¬ (false = true) by decide)] at H; obtain rfl := Option.some.inj H; have hz9 := bc4_ BK269.out; go_wp2_with (first | ((with_reducible refine gate_callee (f := 112) rfl ?_); refine gA_ (some 5) Try.func112 (impl_within.calls _ _ _ _ _ A4.out) ?_; rintro e w' ⟨rfl, ⟨nd, rfl⟩⟩; refine ⟨_, rfl, ?_⟩)); go_ret; exact ⟨Be_1, hb_⟩
end Go.Proofs.Ytbjambmdononiaa.PFnExactPictureParts
namespace Go.Proofs.Ytbjambmdononiaa.PFnExactPictureParts
open Go.RowKit Go.Proofs.YtbjambmdononiaaW.PrintWords Go.Proofs.YtbjambmdononiaaW.PrintLast Go.Proofs.YtbjambmdononiaaW.PrintMore
attribute [local go_sem] max2_int min2_int max_two min_two max_three min_three max_four min_four
set_option linter.unusedVariables false
set_option linter.unusedSimpArgs false
def impl_TilesOf.f (k : Nat) (a0_0 : Int) (a0_1 : Int) (l0_2 : List Int) (l0_3 : List Int) : Option (Int) := (impl_SeqOk.f k a0_0 a0_1 l0_2 l0_3).bind fun t272 => (if t272 = true then (some (wrap64 ((l0_2.length : Int) * (l0_3.length : Int)))) else (some 0))
theorem impl_TilesOf.mono : ∀ a0 a1 a2 a3 k, LeO (impl_TilesOf.f k a0 a1 a2 a3) (impl_TilesOf.f (k + 1) a0 a1 a2 a3) := by
 intro a0 a1 a2 a3 k; unfold impl_TilesOf.f
 repeat' first
   | (with_reducible exact impl_SeqOk.mono _ _ _ _ _)
   | (with_reducible exact LeO.refl _)
   | (with_reducible exact LeO.none _)
   | (with_reducible refine LeO.ite ?_ ?_)
   | (with_reducible refine LeO.bind ?_ (fun _ => ?_))
   | exact impl_SeqOk.mono _ _ _ _ _
   | exact LeO.none _
   | refine LeO.ite ?_ ?_
   | refine LeO.bind ?_ (fun _ => ?_)
set_option maxHeartbeats 8000000 in
set_option maxRecDepth 100000 in
theorem impl_TilesOf.calls (k : Nat) (a0_0 : Int) (a0_1 : Int) (A0_2 : Option Addr) (c0_2 : Nat) (l0_2 : List Int) (A0_3 : Option Addr) (c0_3 : Nat) (l0_3 : List Int) (r : Int) (w : World) (hr0_2 : Kd.C (Kd.int .i64) w A0_2 l0_2.length l0_2) (hc0_2 : l0_2.length ≤ c0_2) (hr0_3 : Kd.C (Kd.int .i64) w A0_3 l0_3.length l0_3) (hc0_3 : l0_3.length ≤ c0_3) (h : impl_TilesOf.f k a0_0 a0_1 l0_2 l0_3 = some r) :
  Calls Try.prog 79 #[.agg #[.int .i64 a0_0, .int .i64 a0_1, .slice A0_2 l0_2.length c0_2, .slice A0_3 l0_3.length c0_3]] w fun e w' => e = .returned (.int .i64 r) ∧ Below w.heap.size w w' := by
 have hu33 := Try.underlying33; have HR0_2 := Aside0.mk hr0_2; have HC0_2 := Aside0.mk hc0_2; clear hr0_2 hc0_2; have HR0_3 := Aside0.mk hr0_3; have HC0_3 := Aside0.mk hc0_3; clear hr0_3 hc0_3; have HB := Aside0.mk (Below.refl w.heap.size w); have H : ((impl_SeqOk.f k a0_0 a0_1 l0_2 l0_3).bind fun t272 => (if t272 = true then (some (wrap64 ((l0_2.length : Int) * (l0_3.length : Int)))) else (some 0))) = some r := h; clear h; replace H := Option.bind_eq_some_iff.mp H; obtain ⟨t272, A20, H⟩ := H; try dsimp only at H
 have A2 := Aside0.mk A20; clear A20; have HC3 := Aside0.mk H; clear H; go_enter Try.func79, Try.ntmps79; go_upto_if 5 with (first | ((with_reducible refine gate_dst (N := 1) rfl ?_); refine bx_ (N := 1) (cs := #[.int .i64 a0_0, .int .i64 a0_1, .slice A0_2 l0_2.length c0_2, .slice A0_3 l0_3.length c0_3]) (t := 33) ?_; intro gb271 hg w4 hbox hb; have BK271 := Aside0.mk (hbox); have GW271 := gw_ hg hb_; have GE271 := gw_ hg hb_; replace HB := Aside0.mk (below_step hb_ hb); clear hb hbox hg; have hz5 := bc4_ BK271.out) | ((with_reducible refine gate_callee (f := 77) rfl ?_); refine gA_ (some 4) Try.func77 (impl_SeqOk.calls _ _ _ _ _ _ _ _ _ _ _ ?side1 ?side2 ?side3 ?side4 A2.out) ?_; (case side1 => repeat (first | exact (Kd.C_below HR0_2.out HB.out) | (with_reducible refine Kd.C_alloc ?_ _) | (with_reducible refine Kd.C_drewN ?_ _) | (with_reducible refine Kd.C_drew ?_))); (case side2 => exact HC0_2.out); (case side3 => repeat (first | exact (Kd.C_below HR0_3.out HB.out) | (with_reducible refine Kd.C_alloc ?_ _) | (with_reducible refine Kd.C_drewN ?_ _) | (with_reducible refine Kd.C_drew ?_))); (case side4 => exact HC0_3.out); rintro e w6 ⟨rfl, hb⟩; refine ⟨_, rfl, ?_⟩; replace BK271 := bb_ BK271 hb; replace HB := Aside0.mk (below_step hb_ hb); (try clear hb); (try clear hb2); (try clear hk); (try clear hi)))
 (try simp only [Act.put, List.setIfInBounds_toArray, List.set_cons_zero, List.set_cons_succ]); have H := HC3.out; clear HC3; by_cases c7 : t272 = true
 ·subst c7
  rw [if_pos rfl] at H; obtain rfl := Option.some.inj H; have hz8 := bc4_ BK271.out; go_wp2; go_ret; exact ⟨Be_1, hb_⟩
 ·replace c7 := Bool.eq_false_iff.mpr c7
  subst c7; rw [if_neg (show ¬ (false = true) by decide)] at H; obtain rfl := Option.some.inj H; go_wp2; go_ret; exact ⟨Be_1, hb_⟩
end Go.Proofs.Ytbjambmdononiaa.PFnExactPictureParts
namespace Go.Proofs.Ytbjambmdononiaa.PFnExactPictureParts
open Go.RowKit Go.Proofs.YtbjambmdononiaaW.PrintWords Go.Proofs.YtbjambmdononiaaW.PrintLast Go.Proofs.YtbjambmdononiaaW.PrintMore
attribute [local go_sem] max2_int min2_int max_two min_two max_three min_three max_four min_four
set_option linter.unusedVariables false
set_option linter.unusedSimpArgs false
def impl_isKind.f (a0 : Int) : Option (Bool) := if a0 = 1 then (some true) else (if a0 = 5 then (some true) else (if a0 = 7 then (some true) else (some (a0 == 8))))
set_option maxHeartbeats 8000000 in
set_option maxRecDepth 100000 in
theorem impl_isKind.calls (a0 : Int) (r : Bool) (w : World) (h : impl_isKind.f a0 = some r) :
  Calls Try.prog 176 #[.int .i64 a0] w fun e w' => e = .returned (.bool r) ∧ Drawn0 w w' := by
 have H : (if a0 = 1 then (some true) else (if a0 = 5 then (some true) else (if a0 = 7 then (some true) else (some (a0 == 8))))) = some r := h; clear h; by_cases c2 : a0 = 1
 ·rw [if_pos c2] at H
  have c2b0 : (a0 == 1) = true := beq_iff_eq.mpr c2; have c2b1 : (a0 != 1) = false := bne_eq_false_iff_eq.mpr c2; clear c2; obtain rfl := Option.some.inj H; go_enter Try.func176, Try.ntmps176; go_wp2; go_ret; exact ⟨Be_2, Be_5⟩
 ·rw [if_neg c2] at H
  have c2b0 : (a0 == 1) = false := beq_eq_false_iff_ne.mpr c2; have c2b1 : (a0 != 1) = true := bne_iff_ne.mpr c2; by_cases c3 : a0 = 5
  ·rw [if_pos c3] at H
   have c3b0 : (a0 == 5) = true := beq_iff_eq.mpr c3; have c3b1 : (a0 != 5) = false := bne_eq_false_iff_eq.mpr c3; clear c3; obtain rfl := Option.some.inj H; go_enter Try.func176, Try.ntmps176; go_wp2; go_ret; exact ⟨Be_2, Be_5⟩
  ·rw [if_neg c3] at H
   have c3b0 : (a0 == 5) = false := beq_eq_false_iff_ne.mpr c3; have c3b1 : (a0 != 5) = true := bne_iff_ne.mpr c3; by_cases c4 : a0 = 7
   ·rw [if_pos c4] at H
    have c4b0 : (a0 == 7) = true := beq_iff_eq.mpr c4; have c4b1 : (a0 != 7) = false := bne_eq_false_iff_eq.mpr c4; clear c4; obtain rfl := Option.some.inj H; go_enter Try.func176, Try.ntmps176; go_wp2; go_ret; exact ⟨Be_2, Be_5⟩
   ·rw [if_neg c4] at H
    have c4b0 : (a0 == 7) = false := beq_eq_false_iff_ne.mpr c4; have c4b1 : (a0 != 7) = true := bne_iff_ne.mpr c4; obtain rfl := Option.some.inj H; go_enter Try.func176, Try.ntmps176; go_wp2; go_ret; exact ⟨Be_2, Be_5⟩
end Go.Proofs.Ytbjambmdononiaa.PFnExactPictureParts
namespace Go.Proofs.Ytbjambmdononiaa.PFnExactPictureParts
open Go.RowKit Go.Proofs.YtbjambmdononiaaW.PrintWords Go.Proofs.YtbjambmdononiaaW.PrintLast Go.Proofs.YtbjambmdononiaaW.PrintMore
attribute [local go_sem] max2_int min2_int max_two min_two max_three min_three max_four min_four
set_option linter.unusedVariables false
set_option linter.unusedSimpArgs false
mutual
def impl_BytesRow.j0 : Nat → ByteArray → Int → Bool → Option (ByteArray × Bool)
 | 0, _, _, _ => none
 | k + 1, x0, x4, x23 => if x23 = true then (some ((⟨#[]⟩ : ByteArray), false)) else (if 0 ≤ x4 then (if (x4 : Int).toNat ≤ 281474976710656 then (impl_BytesRow.l0 k x0 x4 (([] : List Int)) 0) else (none)) else (none))
def impl_BytesRow.l0 : Nat → ByteArray → Int → List Int → Int → Option (ByteArray × Bool)
 | 0, _, _, _, _ => none
 | k + 1, x0, x4, x5, x6 => if x6 < x4 then (if 0 ≤ (wrap64 (Int.tdiv x6 8)) then (if (wrap64 (Int.tdiv x6 8)) < (x0.size : Int) then (if 0 ≤ (wrap64 (7 - (Int.tmod x6 8))) then (if x5.length < 140737488355328 then (impl_BytesRow.l0 k x0 x4 (x5 ++ [(48 + (Go.bits .and .u8 (shr .u8 (bt x0 (wrap64 (Int.tdiv x6 8))) (wrap64 (7 - (Int.tmod x6 8)))) 1)) % 256]) (wrap64 (x6 + 1))) else (none)) else (none)) else (none)) else (none)) else (impl_BytesRow.l1 k x4 x5)
def impl_BytesRow.l1 : Nat → Int → List Int → Option (ByteArray × Bool)
 | 0, _, _ => none
 | k + 1, x4, x5 => if 0 ≤ (wrap64 (x4 - 1)) then (if (wrap64 (x4 - 1)) < (x5.length : Int) then (if (rd x5 (wrap64 (x4 - 1))) = 48 then (impl_BytesRow.l1 k (wrap64 (x4 - 1)) x5) else (if (wrap64 (x4 - 1)) > 400000 then (some ((⟨#[]⟩ : ByteArray), false)) else (if (wrap64 (x4 - 1)) ≤ (x5.length : Int) then (some (strOfNums (x5.take ((wrap64 (x4 - 1)) : Int).toNat), true)) else (none)))) else (none)) else (none)
end
def impl_BytesRow.f (k : Nat) (a0 : ByteArray) : Option (ByteArray × Bool) := if (wrap64 (8 * (a0.size : Int))) = 0 then (impl_BytesRow.j0 k a0 (wrap64 (8 * (a0.size : Int))) true) else (if 0 ≤ (wrap64 ((a0.size : Int) - 1)) then (if (wrap64 ((a0.size : Int) - 1)) < (a0.size : Int) then (if (bt a0 (wrap64 ((a0.size : Int) - 1))) = 0 then (impl_BytesRow.j0 k a0 (wrap64 (8 * (a0.size : Int))) true) else (impl_BytesRow.j0 k a0 (wrap64 (8 * (a0.size : Int))) (decide ((wrap64 (8 * (a0.size : Int))) > 400008)))) else (none)) else (none))
theorem impl_BytesRow.mono_l : ∀ k, (∀ y0 y1 y2, LeO (impl_BytesRow.j0 k y0 y1 y2) (impl_BytesRow.j0 (k + 1) y0 y1 y2)) ∧ (∀ y0 y1 y2 y3, LeO (impl_BytesRow.l0 k y0 y1 y2 y3) (impl_BytesRow.l0 (k + 1) y0 y1 y2 y3)) ∧ (∀ y0 y1, LeO (impl_BytesRow.l1 k y0 y1) (impl_BytesRow.l1 (k + 1) y0 y1))
 | 0 => ⟨fun _ _ _ r h => by simp [impl_BytesRow.j0] at h, fun _ _ _ _ r h => by simp [impl_BytesRow.l0] at h, fun _ _ r h => by simp [impl_BytesRow.l1] at h⟩
 | k + 1 => by
  obtain ⟨ih0, ih1, ih2⟩ := impl_BytesRow.mono_l k; refine ⟨?_, ?_, ?_⟩
  ·intro y0 y1 y2
   unfold impl_BytesRow.j0
   repeat' first
   | (with_reducible exact ih0 _ _ _)
   | (with_reducible exact ih1 _ _ _ _)
   | (with_reducible exact ih2 _ _)
   | (with_reducible exact LeO.refl _)
   | (with_reducible exact LeO.none _)
   | (with_reducible refine LeO.ite ?_ ?_)
   | (with_reducible refine LeO.bind ?_ (fun _ => ?_))
   | exact ih0 _ _ _
   | exact ih1 _ _ _ _
   | exact ih2 _ _
   | exact LeO.none _
   | refine LeO.ite ?_ ?_
   | refine LeO.bind ?_ (fun _ => ?_)
  ·intro y0 y1 y2 y3
   unfold impl_BytesRow.l0
   repeat' first
   | (with_reducible exact ih0 _ _ _)
   | (with_reducible exact ih1 _ _ _ _)
   | (with_reducible exact ih2 _ _)
   | (with_reducible exact LeO.refl _)
   | (with_reducible exact LeO.none _)
   | (with_reducible refine LeO.ite ?_ ?_)
   | (with_reducible refine LeO.bind ?_ (fun _ => ?_))
   | exact ih0 _ _ _
   | exact ih1 _ _ _ _
   | exact ih2 _ _
   | exact LeO.none _
   | refine LeO.ite ?_ ?_
   | refine LeO.bind ?_ (fun _ => ?_)
  ·intro y0 y1
   unfold impl_BytesRow.l1
   repeat' first
   | (with_reducible exact ih0 _ _ _)
   | (with_reducible exact ih1 _ _ _ _)
   | (with_reducible exact ih2 _ _)
   | (with_reducible exact LeO.refl _)
   | (with_reducible exact LeO.none _)
   | (with_reducible refine LeO.ite ?_ ?_)
   | (with_reducible refine LeO.bind ?_ (fun _ => ?_))
   | exact ih0 _ _ _
   | exact ih1 _ _ _ _
   | exact ih2 _ _
   | exact LeO.none _
   | refine LeO.ite ?_ ?_
   | refine LeO.bind ?_ (fun _ => ?_)
theorem impl_BytesRow.mono : ∀ a0 k, LeO (impl_BytesRow.f k a0) (impl_BytesRow.f (k + 1) a0) := by
 intro a0 k; obtain ⟨ih0, ih1, ih2⟩ := impl_BytesRow.mono_l k; unfold impl_BytesRow.f
 repeat' first
   | (with_reducible exact ih0 _ _ _)
   | (with_reducible exact ih1 _ _ _ _)
   | (with_reducible exact ih2 _ _)
   | (with_reducible exact LeO.refl _)
   | (with_reducible exact LeO.none _)
   | (with_reducible refine LeO.ite ?_ ?_)
   | (with_reducible refine LeO.bind ?_ (fun _ => ?_))
   | exact ih0 _ _ _
   | exact ih1 _ _ _ _
   | exact ih2 _ _
   | exact LeO.none _
   | refine LeO.ite ?_ ?_
   | refine LeO.bind ?_ (fun _ => ?_)
set_option maxHeartbeats 8000000 in
set_option maxRecDepth 100000 in
theorem impl_BytesRow.calls (k : Nat) (a0 : ByteArray) (r1 : ByteArray) (r2 : Bool) (w : World) (h : impl_BytesRow.f k a0 = some (r1, r2)) :
  Calls Try.prog 195 #[.string a0] w fun e w' => e = .returned (.tuple #[.string r1, .bool r2]) ∧ Below w.heap.size w w' := by
 have HB := Aside0.mk (Below.refl w.heap.size w); have H : (if (wrap64 (8 * (a0.size : Int))) = 0 then (impl_BytesRow.j0 k a0 (wrap64 (8 * (a0.size : Int))) true) else (if 0 ≤ (wrap64 ((a0.size : Int) - 1)) then (if (wrap64 ((a0.size : Int) - 1)) < (a0.size : Int) then (if (bt a0 (wrap64 ((a0.size : Int) - 1))) = 0 then (impl_BytesRow.j0 k a0 (wrap64 (8 * (a0.size : Int))) true) else (impl_BytesRow.j0 k a0 (wrap64 (8 * (a0.size : Int))) (decide ((wrap64 (8 * (a0.size : Int))) > 400008)))) else (none)) else (none))) = some (r1, r2) := h; clear h; have HC2 := Aside0.mk H; clear H; go_enter Try.func195, Try.ntmps195; go_upto_region 2 with (fail)
 go_cut [23] (fun v23 wc => ∃ (kq : Nat) (x23_1 : Bool), v23 = .bool x23_1 ∧ Aside0 (impl_BytesRow.j0 kq a0 (wrap64 (8 * (a0.size : Int))) x23_1 = some (r1, r2)) ∧ Aside0 (kq ≤ k) ∧ Aside0 (Below w.heap.size w wc))
 case first =>
  have H := HC2.out; clear HC2; by_cases c3 : (wrap64 (8 * (a0.size : Int))) = 0
  ·rw [if_pos c3] at H
   have c3b0 : ((wrap64 (8 * (a0.size : Int))) == 0) = true := beq_iff_eq.mpr c3; have c3b1 : ((wrap64 (8 * (a0.size : Int))) != 0) = false := bne_eq_false_iff_eq.mpr c3; clear c3; (first | rw [c3b0] | (simp only [i64_w, i32_w]; rw [c3b0]) | skip); have H' := Aside0.mk H; clear H; go_wp2; go_meet
   case rel => exact ⟨_, (true), Be_2, H', ⟨Be_16⟩, ⟨hb_⟩⟩
  ·rw [if_neg c3] at H
   have c3b0 : ((wrap64 (8 * (a0.size : Int))) == 0) = false := beq_eq_false_iff_ne.mpr c3; have c3b1 : ((wrap64 (8 * (a0.size : Int))) != 0) = true := bne_iff_ne.mpr c3; (first | rw [c3b0] | (simp only [i64_w, i32_w]; rw [c3b0]) | skip); obtain ⟨ji4, hji4⟩ : ∃ j_ : Int, (wrap64 ((a0.size : Int) - 1)) = j_ := ⟨_, rfl⟩; (first | rw [hji4] at H | simp only [hji4] at H); have hji4w : (IntKind.i64.wrap ((a0.size : Int) - 1)) = ji4 := (i64_w _).trans hji4; by_cases c5 : 0 ≤ (ji4)
   ·rw [if_pos c5] at H
    have c5b0 : decide (0 ≤ (ji4)) = true := decide_eq_true c5; clear c5; by_cases c6 : (ji4) < (a0.size : Int)
    ·rw [if_pos c6] at H
     have c6b0 : decide ((ji4) < (a0.size : Int)) = true := decide_eq_true c6; clear c6; by_cases c8 : (bt a0 (ji4)) = 0
     ·rw [if_pos c8] at H
      have c8b0 : ((bt a0 (ji4)) == 0) = true := beq_iff_eq.mpr c8; have c8b1 : ((bt a0 (ji4)) != 0) = false := bne_eq_false_iff_eq.mpr c8; clear c8; have H' := Aside0.mk H; clear H; have p7 : 0 ≤ ((ji4) : Int) := of_decide_eq_true Be_0; have q7 : (ji4) < (a0.size : Int) := of_decide_eq_true Be_0; have hx7 := bt_at a0 (ji4); replace p7 := eq_true p7; replace q7 := eq_true q7; go_wp2; go_meet
      case rel => exact ⟨_, (true), Be_2, H', ⟨Be_16⟩, ⟨hb_⟩⟩
     ·rw [if_neg c8] at H
      have c8b0 : ((bt a0 (ji4)) == 0) = false := beq_eq_false_iff_ne.mpr c8; have c8b1 : ((bt a0 (ji4)) != 0) = true := bne_iff_ne.mpr c8; have H' := Aside0.mk H; clear H; have p7 : 0 ≤ ((ji4) : Int) := of_decide_eq_true Be_0; have q7 : (ji4) < (a0.size : Int) := of_decide_eq_true Be_0; have hx7 := bt_at a0 (ji4); replace p7 := eq_true p7; replace q7 := eq_true q7; go_wp2; go_meet
      case rel => exact ⟨_, (decide ((wrap64 (8 * (a0.size : Int))) > 400008)), Be_2, H', ⟨Be_16⟩, ⟨hb_⟩⟩
    ·rw [if_neg c6] at H
     exact absurd H (by simp)
   ·rw [if_neg c5] at H
    exact absurd H (by simp)
 case rest =>
  clear HC2; try clear c1; try clear p2; try clear c3; try clear c3b0; try clear c3b1; try clear c5; try clear c5b0; try clear c6; try clear c6b0; try clear p6; try clear p7; try clear q7; try clear hx7; try clear c8; try clear c8b0; try clear c8b1
  obtain ⟨kq, x23_1, rfl, HA, HJ1, HB⟩ := hcut; cases kq with
  | zero => exact absurd HA.out (by simp [impl_BytesRow.j0])
  | succ kj1 =>
   have H := HA.out; clear HA; simp only [impl_BytesRow.j0] at H; by_cases c9 : x23_1 = true
   ·subst c9
    rw [if_pos rfl] at H; simp only [Option.some.injEq, Prod.mk.injEq] at H; obtain ⟨rfl, rfl⟩ := H; go_wp2; go_ret2
    exact ⟨Be_1, hb_⟩
   ·replace c9 := Bool.eq_false_iff.mpr c9
    subst c9; rw [if_neg (show ¬ (false = true) by decide)] at H; obtain ⟨ji10, hji10⟩ : ∃ j_ : Int, (wrap64 (8 * (a0.size : Int))) = j_ := ⟨_, rfl⟩; (first | rw [hji10] at H | simp only [hji10] at H); have hji10w : (IntKind.i64.wrap (8 * (a0.size : Int))) = ji10 := (i64_w _).trans hji10; by_cases c11 : 0 ≤ (ji10)
    ·rw [if_pos c11] at H
     have c11b0 := eq_true c11; have c11b1 : decide (0 ≤ (ji10)) = true := decide_eq_true c11; clear c11; by_cases c12 : ((ji10) : Int).toNat ≤ 281474976710656
     ·rw [if_pos c12] at H
      have c12b0 := eq_true c12; have c12b1 : decide (((ji10) : Int).toNat ≤ 281474976710656) = true := decide_eq_true c12; clear c12; obtain ⟨y273, hy273⟩ : ∃ y_ : List Int, y_ = (([] : List Int)) := ⟨_, rfl⟩; replace H : (impl_BytesRow.l0 kj1 a0 (ji10) y273 0) = some (r1, r2) := by first | (rw [hy273]; with_reducible exact H) | (have H2_ := (Option.bind_some _ _).symm.trans H; rw [hy273]; with_reducible exact H2_) | (have H2_ := (Option.bind_some _ _).symm.trans H; with_reducible exact H2_) | with_reducible exact H | (rw [hy273]; exact H) | exact H
      have Ny273 := Aside0.mk hy273; clear hy273; have H' := Aside0.mk H; clear H; go_wp2_with (first | ((with_reducible refine gate_dst (N := 25) rfl ?_); (try (refine gate_guard (by rfl) ?_; dsimp only)); refine Kd.R_makecap (Kd.int .u8) _ 5 rfl (N := 25) rfl 51 _ _ rfl (ji10) rfl (by first | rfl | (refine congrArg (Value.int .i64) ?_; assumption)) Try.underlying51 (.int .u8 0) 1 info5 (by decide) (ok := fun _ => True) trivial (of_decide_eq_true Be_0) (Nat.le_trans (Nat.mul_le_mul_right _ (of_decide_eq_true Be_0 : (ji10).toNat ≤ 281474976710656)) (by omega)) (Below.refl _ _) (Nat.le_refl _) ?_; intro v274 w13 ho14 hb hg_ hnew_; clear hg_ hnew_; (first | rw [← Ny273.out] at ho14 | (simp only [Int.reduceToNat] at ho14; rw [← Ny273.out] at ho14)); have HO275 := Aside0.mk (Kd.R_lower ho14 (below_size hb_)); replace HB := Aside0.mk (below_step hb_ hb); clear hb ho14)); go_loopg [5, 6] kj1 (fun kq v5 v6 w' => ∃ (x5_2 : List Int) (x6_2 : Int), v6 = .int .i64 x6_2 ∧ Aside0 (impl_BytesRow.l0 kq a0 (ji10) x5_2 x6_2 = some (r1, r2)) ∧ Aside0 (kq ≤ kj1) ∧ Aside0 (Kd.R (Kd.int .u8) 5 w' w.heap.size (fun _ => True) v5 x5_2) ∧ Aside0 (Below w.heap.size w w'))
      case atStart => exact ⟨(y273), (0), Be_2, H', ⟨Nat.le_refl _⟩, ⟨(by (with_reducible repeat (first | apply Kd.R_alloc | apply Kd.R_drewN | apply Kd.R_drew)); exact HO275.out)⟩, ⟨hb_⟩⟩
      case round =>
       clear H'; try clear c1; try clear p2; try clear c3; try clear c3b0; try clear c3b1; try clear c5; try clear c5b0; try clear c6; try clear c6b0; try clear p6; try clear p7; try clear q7; try clear hx7; try clear c8; try clear c8b0; try clear c8b1; try clear c9; try clear c11; try clear c11b0; try clear c11b1; try clear c12; try clear c12b0; try clear c12b1
       obtain ⟨x5_2, x6_2, rfl, HA, HK2, HO_5, HB⟩ := hrel; cases gk with
       | zero => exact absurd HA.out (by simp [impl_BytesRow.l0])
       | succ k2 =>
        have H := HA.out; clear HA; simp only [impl_BytesRow.l0] at H; by_cases c15 : x6_2 < (ji10)
        ·rw [if_pos c15] at H
         have c15b0 : decide (x6_2 < (ji10)) = true := decide_eq_true c15; clear c15; obtain ⟨ji16, hji16⟩ : ∃ j_ : Int, (wrap64 (Int.tdiv x6_2 8)) = j_ := ⟨_, rfl⟩; (first | rw [hji16] at H | simp only [hji16] at H); have hji16w : (IntKind.i64.wrap (Int.tdiv x6_2 8)) = ji16 := (i64_w _).trans hji16; by_cases c17 : 0 ≤ (ji16)
         ·rw [if_pos c17] at H
          have c17b0 : decide (0 ≤ (ji16)) = true := decide_eq_true c17; clear c17; by_cases c18 : (ji16) < (a0.size : Int)
          ·rw [if_pos c18] at H
           have c18b0 : decide ((ji16) < (a0.size : Int)) = true := decide_eq_true c18; clear c18; obtain ⟨ji20, hji20⟩ : ∃ j_ : Int, (wrap64 (7 - (Int.tmod x6_2 8))) = j_ := ⟨_, rfl⟩; (first | rw [hji20] at H | simp only [hji20] at H); have hji20w : (IntKind.i64.wrap (7 - (Int.tmod x6_2 8))) = ji20 := (i64_w _).trans hji20; by_cases c21 : 0 ≤ (ji20)
           ·rw [if_pos c21] at H
            have c21b0 := eq_true c21; have c21b1 : decide (0 ≤ (ji20)) = true := decide_eq_true c21; clear c21; obtain ⟨ji22, hji22⟩ : ∃ j_ : Int, (shr .u8 (bt a0 (ji16)) (ji20)) = j_ := ⟨_, rfl⟩; (first | rw [hji22] at H | simp only [hji22] at H); have hji22_ : ((bt a0 (ji16)) / 2 ^ min (ji20).toNat 8) = ji22 := hji22; have hji22z : (ji20) ≤ 8 → ((bt a0 (ji16)) / 2 ^ (ji20).toNat) = ji22 := shr_small hji22; by_cases c23 : x5_2.length < 140737488355328
            ·rw [if_pos c23] at H
             have LMc23 := Aside0.mk c23; clear c23; obtain ⟨y276, hy276⟩ : ∃ y_ : List Int, y_ = (x5_2 ++ [(48 + (Go.bits .and .u8 (ji22) 1)) % 256]) := ⟨_, rfl⟩; replace H : (impl_BytesRow.l0 k2 a0 (ji10) y276 (wrap64 (x6_2 + 1))) = some (r1, r2) := by first | (rw [hy276]; with_reducible exact H) | (have H2_ := (Option.bind_some _ _).symm.trans H; rw [hy276]; with_reducible exact H2_) | (have H2_ := (Option.bind_some _ _).symm.trans H; with_reducible exact H2_) | with_reducible exact H | (rw [hy276]; exact H) | exact H
             have Ny276 := Aside0.mk hy276; clear hy276; have H' := Aside0.mk H; clear H; have p19 : 0 ≤ ((ji16) : Int) := of_decide_eq_true Be_0; have q19 : (ji16) < (a0.size : Int) := of_decide_eq_true Be_0; have hx19 := bt_at a0 (ji16); replace p19 := eq_true p19; replace q19 := eq_true q19; go_wp2_with (first | ((with_reducible refine gate_builtin (b := .append) (xs := #[.tmp 31, .tmp 42]) rfl ?_); (try (refine gate_guard (by rfl) ?_; dsimp only)); at_builtin; refine Kd.R_append (Kd.int .u8) (w0 := w) w.heap.size rfl (.tmp 31) (.tmp 42) 51 5 (.int .u8 0) 1 rfl Try.underlying51 info5 rfl (by decide) (by omega) u5 x5_2 ((48 + (Go.bits .and .u8 (ji22) 1)) % 256) [.int .u8 ((48 + (Go.bits .and .u8 (ji22) 1)) % 256)] (fun _ => True) (fun _ => False) rfl rfl ?aP (fun _ hk => hk.elim) ?aF ?aO ?aB ?aS ?aL ?_; (case aP => exact rfl); (case aB => exact hb_); (case aF => exact (fun _ _ => trivial)); (case aO => exact Be_13); (case aS => exact (below_size hb_)); (case aL => have := LMc23.out; omega); intro v277 w24 ho hb hg hat; rw [← Ny276.out] at ho; replace HB := Aside0.mk (hb); have HO278 := Aside0.mk (ho); clear HO_5; clear ho hb hg hat)); go_roundg k2
             case measure => have := HJ1.out; have := HK2.out; omega
             case rel => exact ⟨(y276), (wrap64 (x6_2 + 1)), Be_2, H', ⟨(by have := HJ1.out; have := HK2.out; omega)⟩, ⟨(by (with_reducible repeat (first | apply Kd.R_alloc | apply Kd.R_drewN | apply Kd.R_drew)); exact HO278.out)⟩, ⟨hb_⟩⟩
            ·rw [if_neg c23] at H
             exact absurd H (by simp)
           ·rw [if_neg c21] at H
            exact absurd H (by simp)
          ·rw [if_neg c18] at H
           exact absurd H (by simp)
         ·rw [if_neg c17] at H
          exact absurd H (by simp)
        ·rw [if_neg c15] at H
         have c15b0 : decide (x6_2 < (ji10)) = false := decide_eq_false c15; clear c15; have H' := Aside0.mk H; clear H; go_wp2; go_loopg [4] k2 (fun kq v4 w' => ∃ (x4_3 : Int), v4 = .int .i64 x4_3 ∧ Aside0 (impl_BytesRow.l1 kq x4_3 x5_2 = some (r1, r2)) ∧ Aside0 (kq ≤ k2) ∧ Aside0 (Kd.R (Kd.int .u8) 5 w' w.heap.size (fun _ => True) u5 x5_2) ∧ Aside0 (Below w.heap.size w w'))
         case atStart => exact ⟨((ji10)), (by first | rfl | (simp; done) | (simp only [← hji10] <;> (first | rfl | simp)) | (simp [*]; done)), H', ⟨Nat.le_refl _⟩, ⟨Be_13⟩, ⟨hb_⟩⟩
         case round =>
          clear H'; try clear c1; try clear p1; try clear q1; try clear hx1; try clear c2; try clear p2; try clear c3; try clear c3b0; try clear c3b1; try clear c5; try clear c5b0; try clear c6; try clear c6b0; try clear p6; try clear p7; try clear q7; try clear hx7; try clear c8; try clear c8b0; try clear c8b1; try clear c9; try clear c11; try clear c11b0; try clear c11b1; try clear c12; try clear c12b0; try clear c12b1; try clear c15; try clear c15b0; try clear c17; try clear c17b0; try clear c18; try clear c18b0; try clear c19; try clear p19; try clear q19; try clear hx19; try clear c21; try clear c21b0; try clear c21b1; try clear c23
          obtain ⟨x4_3, rfl, HA, HK3, HO_5, HB⟩ := hrel; cases gk with
          | zero => exact absurd HA.out (by simp [impl_BytesRow.l1])
          | succ k3 =>
           have H := HA.out; clear HA; simp only [impl_BytesRow.l1] at H; obtain ⟨ji25, hji25⟩ : ∃ j_ : Int, (wrap64 (x4_3 - 1)) = j_ := ⟨_, rfl⟩; (first | rw [hji25] at H | simp only [hji25] at H); have hji25w : (IntKind.i64.wrap (x4_3 - 1)) = ji25 := (i64_w _).trans hji25; by_cases c26 : 0 ≤ (ji25)
           ·rw [if_pos c26] at H
            have c26b0 : decide (0 ≤ (ji25)) = true := decide_eq_true c26; clear c26; by_cases c27 : (ji25) < (x5_2.length : Int)
            ·rw [if_pos c27] at H
             have c27b0 : decide ((ji25) < (x5_2.length : Int)) = true := decide_eq_true c27; clear c27; by_cases c28 : (rd x5_2 (ji25)) = 48
             ·rw [if_pos c28] at H
              have c28b0 : ((rd x5_2 (ji25)) == 48) = true := beq_iff_eq.mpr c28; have c28b1 : ((rd x5_2 (ji25)) != 48) = false := bne_eq_false_iff_eq.mpr c28; clear c28; have H' := Aside0.mk H; clear H; obtain ⟨Ao29, co29, eo29⟩ := Kd.R_slice HO_5.out; subst eo29; have p279 : 0 ≤ ((ji25) : Int) := of_decide_eq_true Be_0; have q279 : (ji25) < (x5_2.length : Int) := of_decide_eq_true Be_0; obtain ⟨ad279, e279, hx279_0⟩ := Kd.at_int (Kd.R_reads' HO_5.out).2.2 (ji25) p279 q279; cases e279; replace p279 := eq_true p279; replace q279 := eq_true q279; go_wp2; go_roundg k3
              case measure => have := HJ1.out; have := HK2.out; have := HK3.out; omega
              case rel => exact ⟨(ji25), (by first | rfl | (simp; done) | (simp only [← hji25] <;> (first | rfl | simp)) | (simp [*]; done)), H', ⟨(by have := HJ1.out; have := HK2.out; have := HK3.out; omega)⟩, ⟨Be_13⟩, ⟨hb_⟩⟩
             ·rw [if_neg c28] at H
              have c28b0 : ((rd x5_2 (ji25)) == 48) = false := beq_eq_false_iff_ne.mpr c28; have c28b1 : ((rd x5_2 (ji25)) != 48) = true := bne_iff_ne.mpr c28; by_cases c30 : (ji25) > 400000
              ·rw [if_pos c30] at H
               have c30b0 : decide (400000 < (ji25)) = true := decide_eq_true c30; clear c30; simp only [Option.some.injEq, Prod.mk.injEq] at H; obtain ⟨rfl, rfl⟩ := H; obtain ⟨Ao31, co31, eo31⟩ := Kd.R_slice HO_5.out; subst eo31; have p279 : 0 ≤ ((ji25) : Int) := of_decide_eq_true Be_0; have q279 : (ji25) < (x5_2.length : Int) := of_decide_eq_true Be_0; obtain ⟨ad279, e279, hx279_0⟩ := Kd.at_int (Kd.R_reads' HO_5.out).2.2 (ji25) p279 q279; cases e279; replace p279 := eq_true p279; replace q279 := eq_true q279; go_wp2; go_ret2
               exact ⟨Be_15, hb_⟩
              ·rw [if_neg c30] at H
               have c30b0 : decide (400000 < (ji25)) = false := decide_eq_false c30; clear c30; have c32b0 := eq_true (of_decide_eq_true Be_0 : 0 ≤ (ji25)); by_cases c33 : (ji25) ≤ (x5_2.length : Int)
               ·rw [if_pos c33] at H
                have c33b0 := eq_true c33; have c33b1 : decide ((ji25) ≤ (x5_2.length : Int)) = true := decide_eq_true c33; clear c33; obtain ⟨y280, hy280⟩ : ∃ y_ : List Int, y_ = (x5_2.take ((ji25) : Int).toNat) := ⟨_, rfl⟩; replace H : (some (strOfNums y280, true)) = some (r1, r2) := by first | (rw [hy280]; with_reducible exact H) | (have H2_ := (Option.bind_some _ _).symm.trans H; rw [hy280]; with_reducible exact H2_) | (have H2_ := (Option.bind_some _ _).symm.trans H; with_reducible exact H2_) | with_reducible exact H | (rw [hy280]; exact H) | exact H
                have Ny280 := Aside0.mk hy280; clear hy280; simp only [Option.some.injEq, Prod.mk.injEq] at H; obtain ⟨rfl, rfl⟩ := H; obtain ⟨Ao34, co34, eo34⟩ := Kd.R_slice HO_5.out; subst eo34; have p279 : 0 ≤ ((ji25) : Int) := of_decide_eq_true Be_0; have q279 : (ji25) < (x5_2.length : Int) := of_decide_eq_true Be_0; obtain ⟨ad279, e279, hx279_0⟩ := Kd.at_int (Kd.R_reads' HO_5.out).2.2 (ji25) p279 q279; cases e279; replace p279 := eq_true p279; replace q279 := eq_true q279; have q35 : ((ji25) : Int) ≤ ((x5_2.length : Int) : Int) := of_decide_eq_true Be_0; obtain ⟨i035, hi035, _, hsz35, _⟩ := info_parts info5; have hroom35 : x5_2.length ≤ co34 := (Kd.R_reads' HO_5.out).2.1; have hC35 : Kd.C (Kd.int .u8) _ (some ad279) x5_2.length x5_2 := (Kd.R_reads' HO_5.out).2.2; have hcut35 := cut_to (P := Try.prog) 51 5 .i64 Try.underlying51 hi035 (some ad279) x5_2.length co34 (ji25) (of_decide_eq_true Be_0) q35 hroom35; have hr35 := Kd.C_take (m := ((ji25) : Int).toNat) hC35 (by omega); have hy35 : y280.length = ((ji25) : Int).toNat := (by rw [Ny280.out, List.length_take]; omega); rw [← Ny280.out] at hr35; rw [← hy35] at hcut35; have HR283 := Aside0.mk hr35; have HC283 := Aside0.mk (show y280.length ≤ co34 from by omega); clear hr35 hC35 hroom35 hi035 hsz35; have KY35 := Aside0.mk hy35; clear hy35; have KL35 := Aside0.mk (show ((ji25) : Int).toNat ≤ x5_2.length from by omega); replace q35 := eq_true q35; have hcv36 := Kd.C_string (P := Try.prog) (A := (some ad279)) (c := co34) Try.underlying51 Try.underlying5 Try.underlying9 (by repeat (first | (with_reducible exact HR283.out) | (with_reducible refine Kd.C_alloc ?_ _) | (with_reducible refine Kd.C_drewN ?_ _) | (with_reducible refine Kd.C_drew ?_) | exact HR283.out)); go_wp2; go_ret2
                exact ⟨Be_15, hb_⟩
               ·rw [if_neg c33] at H
                exact absurd H (by simp)
            ·rw [if_neg c27] at H
             exact absurd H (by simp)
           ·rw [if_neg c26] at H
            exact absurd H (by simp)
     ·rw [if_neg c12] at H
      exact absurd H (by simp)
    ·rw [if_neg c11] at H
     exact absurd H (by simp)
end Go.Proofs.Ytbjambmdononiaa.PFnExactPictureParts
namespace Go.Proofs.Ytbjambmdononiaa.PFnExactPictureParts
open Go.RowKit Go.Proofs.YtbjambmdononiaaW.PrintWords Go.Proofs.YtbjambmdononiaaW.PrintLast Go.Proofs.YtbjambmdononiaaW.PrintMore
attribute [local go_sem] max2_int min2_int max_two min_two max_three min_three max_four min_four
set_option linter.unusedVariables false
set_option linter.unusedSimpArgs false
def impl_UnitIn.j0 : Nat → ByteArray → Bool → Option (Int × ByteArray × Bool)
 | 0, _, _ => none
 | k + 1, x0, x15 => if x15 = true then (some (0, (⟨#[]⟩ : ByteArray), false)) else (if 1 ≤ (x0.size : Int) then ((impl_BytesRow.f k (x0.extract 1 x0.size)).bind fun bt285 => (if bt285.2 = true then (if 0 < (x0.size : Int) then (some (wrap64 (bt x0 0), bt285.1, true)) else (none)) else (some (0, (⟨#[]⟩ : ByteArray), false)))) else (none))
def impl_UnitIn.f (k : Nat) (a0 : ByteArray) : Option (Int × ByteArray × Bool) := if a0.toList = ([] : List UInt8) then (impl_UnitIn.j0 k a0 true) else (if 0 < (a0.size : Int) then ((impl_isKind.f (wrap64 (bt a0 0))).bind fun t284 => (impl_UnitIn.j0 k a0 (!t284))) else (none))
theorem impl_UnitIn.mono_l : ∀ k, (∀ y0 y1, LeO (impl_UnitIn.j0 k y0 y1) (impl_UnitIn.j0 (k + 1) y0 y1))
 | 0 => fun _ _ r h => by simp [impl_UnitIn.j0] at h
 | k + 1 => by
  have ih0 := impl_UnitIn.mono_l k
  ·intro y0 y1
   unfold impl_UnitIn.j0
   repeat' first
   | (with_reducible exact ih0 _ _)
   | (with_reducible exact impl_BytesRow.mono _ _)
   | (with_reducible exact LeO.refl _)
   | (with_reducible exact LeO.none _)
   | (with_reducible refine LeO.ite ?_ ?_)
   | (with_reducible refine LeO.bind ?_ (fun _ => ?_))
   | exact ih0 _ _
   | exact impl_BytesRow.mono _ _
   | exact LeO.none _
   | refine LeO.ite ?_ ?_
   | refine LeO.bind ?_ (fun _ => ?_)
theorem impl_UnitIn.mono : ∀ a0 k, LeO (impl_UnitIn.f k a0) (impl_UnitIn.f (k + 1) a0) := by
 intro a0 k; have ih0 := impl_UnitIn.mono_l k; unfold impl_UnitIn.f
 repeat' first
   | (with_reducible exact ih0 _ _)
   | (with_reducible exact impl_BytesRow.mono _ _)
   | (with_reducible exact LeO.refl _)
   | (with_reducible exact LeO.none _)
   | (with_reducible refine LeO.ite ?_ ?_)
   | (with_reducible refine LeO.bind ?_ (fun _ => ?_))
   | exact ih0 _ _
   | exact impl_BytesRow.mono _ _
   | exact LeO.none _
   | refine LeO.ite ?_ ?_
   | refine LeO.bind ?_ (fun _ => ?_)
set_option maxHeartbeats 8000000 in
set_option maxRecDepth 100000 in
theorem impl_UnitIn.calls (k : Nat) (a0 : ByteArray) (r1 : Int) (r2 : ByteArray) (r3 : Bool) (w : World) (h : impl_UnitIn.f k a0 = some (r1, r2, r3)) :
  Calls Try.prog 120 #[.string a0] w fun e w' => e = .returned (.tuple #[.int .i64 r1, .string r2, .bool r3]) ∧ Below w.heap.size w w' := by
 have HB := Aside0.mk (Below.refl w.heap.size w); have H : (if a0.toList = ([] : List UInt8) then (impl_UnitIn.j0 k a0 true) else (if 0 < (a0.size : Int) then ((impl_isKind.f (wrap64 (bt a0 0))).bind fun t284 => (impl_UnitIn.j0 k a0 (!t284))) else (none))) = some (r1, r2, r3) := h; clear h; have HC2 := Aside0.mk H; clear H; go_enter Try.func120, Try.ntmps120; go_upto_region 1 with (fail)
 go_cut [15] (fun v15 wc => ∃ (kq : Nat) (x15_1 : Bool), v15 = .bool x15_1 ∧ Aside0 (impl_UnitIn.j0 kq a0 x15_1 = some (r1, r2, r3)) ∧ Aside0 (kq ≤ k) ∧ Aside0 (Below w.heap.size w wc))
 case first =>
  have H := HC2.out; clear HC2; by_cases c3 : a0.toList = ([] : List UInt8)
  ·rw [if_pos c3] at H
   have c3b0 : (a0.toList == ([] : List UInt8)) = true := beq_iff_eq.mpr c3; have c3b1 : (a0.toList != ([] : List UInt8)) = false := bne_eq_false_iff_eq.mpr c3; clear c3; (first | rw [c3b0] | (simp only [i64_w, i32_w]; rw [c3b0]) | skip); have H' := Aside0.mk H; clear H; go_wp2; go_meet
   case rel => exact ⟨_, (true), Be_2, H', ⟨Be_16⟩, ⟨hb_⟩⟩
  ·rw [if_neg c3] at H
   have c3b0 : (a0.toList == ([] : List UInt8)) = false := beq_eq_false_iff_ne.mpr c3; have c3b1 : (a0.toList != ([] : List UInt8)) = true := bne_iff_ne.mpr c3; (first | rw [c3b0] | (simp only [i64_w, i32_w]; rw [c3b0]) | skip); by_cases c4 : 0 < (a0.size : Int)
   ·rw [if_pos c4] at H
    have c4b0 : decide (0 < (a0.size : Int)) = true := decide_eq_true c4; have c4b1 : decide (0 < a0.size) = true := decide_eq_true (by omega); clear c4; replace H := Option.bind_eq_some_iff.mp H; obtain ⟨t284, A60, H⟩ := H; try dsimp only at H
    have A6 := Aside0.mk A60; clear A60; have H' := Aside0.mk H; clear H; have p5 : 0 ≤ (0 : Int) := (by omega); have q5 : 0 < a0.size := (by have : (0 : Int) < (a0.size : Int) := of_decide_eq_true Be_0; omega); have hx5 : ∀ h : 0 < a0.size, ((a0[0]'h).toNat : Int) = bt a0 0 := bt_at a0 0; clear p5; have qi5 : (0 < (a0.size : Int)) = True := eq_true (of_decide_eq_true Be_0); replace q5 := eq_true q5; go_wp2_with (first | (go_at_call 176; (with_reducible refine (impl_isKind.calls (wrap64 (bt a0 0)) t284 _ A6.out).mono ?_); rintro e w' ⟨rfl, ⟨nd, rfl⟩⟩)); go_meet
    case rel => exact ⟨_, (!t284), Be_2, H', ⟨Be_16⟩, ⟨hb_⟩⟩
   ·rw [if_neg c4] at H
    exact absurd H (by simp)
 case rest =>
  clear HC2; try clear c1; try clear p2; try clear c3; try clear c3b0; try clear c3b1; try clear c4; try clear c4b0; try clear c4b1; try clear p5; try clear q5; try clear hx5; try clear qi5; try clear p6
  obtain ⟨kq, x15_1, rfl, HA, HJ1, HB⟩ := hcut; cases kq with
  | zero => exact absurd HA.out (by simp [impl_UnitIn.j0])
  | succ kj1 =>
   have H := HA.out; clear HA; simp only [impl_UnitIn.j0] at H; by_cases c7 : x15_1 = true
   ·subst c7
    rw [if_pos rfl] at H; simp only [Option.some.injEq, Prod.mk.injEq] at H; obtain ⟨rfl, rfl, rfl⟩ := H; go_wp2; go_ret3
    exact ⟨Be_1, hb_⟩
   ·replace c7 := Bool.eq_false_iff.mpr c7
    subst c7; rw [if_neg (show ¬ (false = true) by decide)] at H; by_cases c8 : 1 ≤ (a0.size : Int)
    ·rw [if_pos c8] at H
     have c8b0 := eq_true c8; have c8b1 : decide (1 ≤ (a0.size : Int)) = true := decide_eq_true c8; clear c8; replace H := Option.bind_eq_some_iff.mp H; obtain ⟨⟨t285, t286⟩, A90, H⟩ := H; try dsimp only at H
     have A9 := Aside0.mk A90; clear A90; have HC10 := Aside0.mk H; clear H; go_upto_if 23 with (first | ((with_reducible refine gate_callee (f := 195) rfl ?_); refine gA_ (some 19) Try.func195 (impl_BytesRow.calls _ _ _ _ _ A9.out) ?_; rintro e w11 ⟨rfl, hb⟩; refine ⟨_, rfl, ?_⟩; replace HB := Aside0.mk (below_step hb_ hb); (try clear hb); (try clear hb2); (try clear hk); (try clear hi)))
     (try simp only [Act.put, List.setIfInBounds_toArray, List.set_cons_zero, List.set_cons_succ]); have H := HC10.out; clear HC10; by_cases c12 : t286 = true
     ·subst c12
      rw [if_pos rfl] at H; by_cases c13 : 0 < (a0.size : Int)
      ·rw [if_pos c13] at H
       have c13b0 : decide (0 < (a0.size : Int)) = true := decide_eq_true c13; have c13b1 : decide (0 < a0.size) = true := decide_eq_true (by omega); clear c13; (first | rw [c13b0] | (simp only [i64_w, i32_w]; rw [c13b0]) | skip); simp only [Option.some.injEq, Prod.mk.injEq] at H; obtain ⟨rfl, rfl, rfl⟩ := H; have p14 : 0 ≤ (0 : Int) := (by omega); have q14 : 0 < a0.size := (by have : (0 : Int) < (a0.size : Int) := of_decide_eq_true Be_0; omega); have hx14 : ∀ h : 0 < a0.size, ((a0[0]'h).toNat : Int) = bt a0 0 := bt_at a0 0; clear p14; have qi14 : (0 < (a0.size : Int)) = True := eq_true (of_decide_eq_true Be_0); replace q14 := eq_true q14; go_wp2; go_ret3
       exact ⟨Be_1, hb_⟩
      ·rw [if_neg c13] at H
       exact absurd H (by simp)
     ·replace c12 := Bool.eq_false_iff.mpr c12
      subst c12; rw [if_neg (show ¬ (false = true) by decide)] at H; simp only [Option.some.injEq, Prod.mk.injEq] at H; obtain ⟨rfl, rfl, rfl⟩ := H; go_wp2; go_ret3
      exact ⟨Be_1, hb_⟩
    ·rw [if_neg c8] at H
     exact absurd H (by simp)
end Go.Proofs.Ytbjambmdononiaa.PFnExactPictureParts
namespace Go.Proofs.Ytbjambmdononiaa.PFnExactPictureParts
open Go.RowKit Go.Proofs.YtbjambmdononiaaW.PrintWords Go.Proofs.YtbjambmdononiaaW.PrintLast Go.Proofs.YtbjambmdononiaaW.PrintMore
attribute [local go_sem] max2_int min2_int max_two min_two max_three min_three max_four min_four
set_option linter.unusedVariables false
set_option linter.unusedSimpArgs false
def impl_RowOk.l0 : Nat → ByteArray → Int → Option (Bool)
 | 0, _, _ => none
 | k + 1, x0, x3 => if x3 < (x0.size : Int) then (if 0 ≤ x3 then (if (bt x0 x3) = 48 then (impl_RowOk.l0 k x0 (wrap64 (x3 + 1))) else (if (bt x0 x3) = 49 then (impl_RowOk.l0 k x0 (wrap64 (x3 + 1))) else (some false))) else (none)) else (some true)
def impl_RowOk.f (k : Nat) (a0 : ByteArray) : Option (Bool) := if (a0.size : Int) > 400000 then (some false) else (impl_RowOk.l0 k a0 0)
theorem impl_RowOk.mono_l : ∀ k, (∀ y0 y1, LeO (impl_RowOk.l0 k y0 y1) (impl_RowOk.l0 (k + 1) y0 y1))
 | 0 => fun _ _ r h => by simp [impl_RowOk.l0] at h
 | k + 1 => by
  have ih0 := impl_RowOk.mono_l k
  ·intro y0 y1
   unfold impl_RowOk.l0
   repeat' first
   | (with_reducible exact ih0 _ _)
   | (with_reducible exact LeO.refl _)
   | (with_reducible exact LeO.none _)
   | (with_reducible refine LeO.ite ?_ ?_)
   | (with_reducible refine LeO.bind ?_ (fun _ => ?_))
   | exact ih0 _ _
   | exact LeO.none _
   | refine LeO.ite ?_ ?_
   | refine LeO.bind ?_ (fun _ => ?_)
theorem impl_RowOk.mono : ∀ a0 k, LeO (impl_RowOk.f k a0) (impl_RowOk.f (k + 1) a0) := by
 intro a0 k; have ih0 := impl_RowOk.mono_l k; unfold impl_RowOk.f
 repeat' first
   | (with_reducible exact ih0 _ _)
   | (with_reducible exact LeO.refl _)
   | (with_reducible exact LeO.none _)
   | (with_reducible refine LeO.ite ?_ ?_)
   | (with_reducible refine LeO.bind ?_ (fun _ => ?_))
   | exact ih0 _ _
   | exact LeO.none _
   | refine LeO.ite ?_ ?_
   | refine LeO.bind ?_ (fun _ => ?_)
set_option maxHeartbeats 8000000 in
set_option maxRecDepth 100000 in
theorem impl_RowOk.calls (k : Nat) (a0 : ByteArray) (r : Bool) (w : World) (h : impl_RowOk.f k a0 = some r) :
  Calls Try.prog 178 #[.string a0] w fun e w' => e = .returned (.bool r) ∧ Drawn0 w w' := by
 have H : (if (a0.size : Int) > 400000 then (some false) else (impl_RowOk.l0 k a0 0)) = some r := h; clear h; by_cases c2 : (a0.size : Int) > 400000
 ·rw [if_pos c2] at H
  have c2b0 : decide (400000 < (a0.size : Int)) = true := decide_eq_true c2; have c2b1 : decide (400000 < a0.size) = true := decide_eq_true (by omega); clear c2; obtain rfl := Option.some.inj H; go_enter Try.func178, Try.ntmps178; go_wp2; go_ret; exact ⟨Be_2, Be_5⟩
 ·rw [if_neg c2] at H
  have c2b0 : decide (400000 < (a0.size : Int)) = false := decide_eq_false c2; have c2b1 : decide (400000 < a0.size) = false := decide_eq_false (by omega); clear c2; have H' := Aside0.mk H; clear H; go_enter Try.func178, Try.ntmps178; go_wp2; go_loopg [3] k (fun kq v3 w' => ∃ (x3_1 : Int), v3 = .int .i64 x3_1 ∧ Aside0 (impl_RowOk.l0 kq a0 x3_1 = some r) ∧ Aside0 (kq ≤ k) ∧ Drawn0 w w')
  case atStart => exact ⟨(0), Be_2, H', ⟨Nat.le_refl _⟩, Be_5⟩
  case round =>
   clear H'; try clear c1; try clear c2; try clear c2b0; try clear c2b1; try clear p2
   obtain ⟨x3_1, rfl, HA, HK1, ⟨m1, rfl⟩⟩ := hrel; cases gk with
   | zero => exact absurd HA.out (by simp [impl_RowOk.l0])
   | succ k1 =>
    have H := HA.out; clear HA; simp only [impl_RowOk.l0] at H; by_cases c3 : x3_1 < (a0.size : Int)
    ·rw [if_pos c3] at H
     have c3b0 : decide (x3_1 < (a0.size : Int)) = true := decide_eq_true c3; clear c3; by_cases c4 : 0 ≤ x3_1
     ·rw [if_pos c4] at H
      have c4b0 : decide (0 ≤ x3_1) = true := decide_eq_true c4; clear c4; by_cases c6 : (bt a0 x3_1) = 48
      ·rw [if_pos c6] at H
       have c6b0 : ((bt a0 x3_1) == 48) = true := beq_iff_eq.mpr c6; have c6b1 : ((bt a0 x3_1) != 48) = false := bne_eq_false_iff_eq.mpr c6; clear c6; have H' := Aside0.mk H; clear H; have p5 : 0 ≤ (x3_1 : Int) := of_decide_eq_true Be_0; have q5 : x3_1 < (a0.size : Int) := of_decide_eq_true Be_0; have hx5 := bt_at a0 x3_1; replace p5 := eq_true p5; replace q5 := eq_true q5; go_wp2; go_roundg k1
       case measure => have := HK1.out; omega
       case rel => exact ⟨(wrap64 (x3_1 + 1)), Be_2, H', ⟨(by have := HK1.out; omega)⟩, Be_5⟩
      ·rw [if_neg c6] at H
       have c6b0 : ((bt a0 x3_1) == 48) = false := beq_eq_false_iff_ne.mpr c6; have c6b1 : ((bt a0 x3_1) != 48) = true := bne_iff_ne.mpr c6; by_cases c8 : (bt a0 x3_1) = 49
       ·rw [if_pos c8] at H
        have c8b0 : ((bt a0 x3_1) == 49) = true := beq_iff_eq.mpr c8; have c8b1 : ((bt a0 x3_1) != 49) = false := bne_eq_false_iff_eq.mpr c8; clear c8; have H' := Aside0.mk H; clear H; have p5 : 0 ≤ (x3_1 : Int) := of_decide_eq_true Be_0; have q5 : x3_1 < (a0.size : Int) := of_decide_eq_true Be_0; have hx5 := bt_at a0 x3_1; replace p5 := eq_true p5; replace q5 := eq_true q5; have p7 : 0 ≤ (x3_1 : Int) := of_decide_eq_true Be_0; have q7 : x3_1 < (a0.size : Int) := of_decide_eq_true Be_0; have hx7 := bt_at a0 x3_1; replace p7 := eq_true p7; replace q7 := eq_true q7; go_wp2; go_roundg k1
        case measure => have := HK1.out; omega
        case rel => exact ⟨(wrap64 (x3_1 + 1)), Be_2, H', ⟨(by have := HK1.out; omega)⟩, Be_5⟩
       ·rw [if_neg c8] at H
        have c8b0 : ((bt a0 x3_1) == 49) = false := beq_eq_false_iff_ne.mpr c8; have c8b1 : ((bt a0 x3_1) != 49) = true := bne_iff_ne.mpr c8; obtain rfl := Option.some.inj H; have p5 : 0 ≤ (x3_1 : Int) := of_decide_eq_true Be_0; have q5 : x3_1 < (a0.size : Int) := of_decide_eq_true Be_0; have hx5 := bt_at a0 x3_1; replace p5 := eq_true p5; replace q5 := eq_true q5; have p7 : 0 ≤ (x3_1 : Int) := of_decide_eq_true Be_0; have q7 : x3_1 < (a0.size : Int) := of_decide_eq_true Be_0; have hx7 := bt_at a0 x3_1; replace p7 := eq_true p7; replace q7 := eq_true q7; go_wp2; go_ret; exact ⟨Be_2, Be_5⟩
     ·rw [if_neg c4] at H
      exact absurd H (by simp)
    ·rw [if_neg c3] at H
     have c3b0 : decide (x3_1 < (a0.size : Int)) = false := decide_eq_false c3; clear c3; obtain rfl := Option.some.inj H; go_wp2; go_ret; exact ⟨Be_2, Be_5⟩
end Go.Proofs.Ytbjambmdononiaa.PFnExactPictureParts
