-- written by a program of this claim's
import Derived.Test.YtjmhhgnknjfnlaaPFnExactReadScriptx0
import Derived.Test.YtjmhhgnknjfnlaaPFnExactReadScriptx9
import Derived.Test.YtjmhhgnknjfnlaaPFnExactReadScriptx10
import Derived.Test.YtjmhhgnknjfnlaaPFnExactReadScriptx13
namespace Go.Proofs.Ytjmhhgnknjfnlaa.PFnExactReadScript
open Go.RowKit Go.Proofs.YtjmhhgnknjfnlaaW.PrintWords Go.Proofs.YtjmhhgnknjfnlaaW.PrintLast Go.Proofs.YtjmhhgnknjfnlaaW.PrintMore
attribute [local go_sem] max2_int min2_int max_two min_two max_three min_three max_four min_four   -- for this text's walks alone
set_option linter.unusedVariables false
set_option linter.unusedSimpArgs false

/-! ### spec_ReadEvent: function 20 -/
mutual
def spec_ReadEvent.j0 : Nat → List ByteArray → Bool → Option (Int × Int × Int × Int × Bool)
  | 0, _, _ => none
  | k + 1, x4, x24 => if x24 = true then (some (0, 0, 0, 0, false)) else (spec_ReadEvent.l0 k x4 1)
def spec_ReadEvent.l0 : Nat → List ByteArray → Int → Option (Int × Int × Int × Int × Bool)
  | 0, _, _ => none
  | k + 1, x4, x6 => if x6 ≤ 9 then ((spec_l33Word.f x6).bind fun bt200 => (if 0 < (x4.length : Int) then (if bt200.1.toList = (rdOf ByteArray.empty x4 0).toList then (spec_ReadEvent.j2 k x4 x6 bt200.2 ((x4.length : Int) != (wrap64 (bt200.2 + 1)))) else (spec_ReadEvent.j2 k x4 x6 bt200.2 true)) else (none))) else (some (0, 0, 0, 0, false))
def spec_ReadEvent.j2 : Nat → List ByteArray → Int → Int → Bool → Option (Int × Int × Int × Int × Bool)
  | 0, _, _, _, _ => none
  | k + 1, x4, x6, x8, x46 => if x46 = true then (spec_ReadEvent.l0 k x4 (wrap64 (x6 + 1))) else (spec_ReadEvent.l1 k x4 x8 0 x6 0 0 0)
def spec_ReadEvent.l1 : Nat → List ByteArray → Int → Int → Int → Int → Int → Int → Option (Int × Int × Int × Int × Bool)
  | 0, _, _, _, _, _, _, _ => none
  | k + 1, x4, x8, x10, x204000, x204001, x204002, x204003 => if x10 < x8 then (if 0 ≤ (wrap64 (x10 + 1)) then (if (wrap64 (x10 + 1)) < (x4.length : Int) then ((spec_ReadDecimal.f k (rdOf ByteArray.empty x4 (wrap64 (x10 + 1)))).bind fun bt205 => (if bt205.2 = true then (if x10 = 0 then (spec_ReadEvent.l1 k x4 x8 (wrap64 (x10 + 1)) x204000 bt205.1 x204002 x204003) else (if x10 = 1 then (spec_ReadEvent.l1 k x4 x8 (wrap64 (x10 + 1)) x204000 x204001 bt205.1 x204003) else (spec_ReadEvent.l1 k x4 x8 (wrap64 (x10 + 1)) x204000 x204001 x204002 bt205.1))) else (some (0, 0, 0, 0, false)))) else (none)) else (none)) else (some (x204000, x204001, x204002, x204003, true))
end
def spec_ReadEvent.f (k : Nat) (a0 : ByteArray) : Option (Int × Int × Int × Int × Bool) := (spec_PartsOf.f k a0).bind fun bt196 => (if bt196.2 = true then (spec_ReadEvent.j0 k bt196.1 ((bt196.1.length : Int) == 0)) else (spec_ReadEvent.j0 k bt196.1 true))
theorem spec_ReadEvent.mono_l : ∀ k, (∀ y0 y1, LeO (spec_ReadEvent.j0 k y0 y1) (spec_ReadEvent.j0 (k + 1) y0 y1)) ∧ (∀ y0 y1, LeO (spec_ReadEvent.l0 k y0 y1) (spec_ReadEvent.l0 (k + 1) y0 y1)) ∧ (∀ y0 y1 y2 y3, LeO (spec_ReadEvent.j2 k y0 y1 y2 y3) (spec_ReadEvent.j2 (k + 1) y0 y1 y2 y3)) ∧ (∀ y0 y1 y2 y3 y4 y5 y6, LeO (spec_ReadEvent.l1 k y0 y1 y2 y3 y4 y5 y6) (spec_ReadEvent.l1 (k + 1) y0 y1 y2 y3 y4 y5 y6))
  | 0 => ⟨fun _ _ r h => by simp [spec_ReadEvent.j0] at h, fun _ _ r h => by simp [spec_ReadEvent.l0] at h, fun _ _ _ _ r h => by simp [spec_ReadEvent.j2] at h, fun _ _ _ _ _ _ _ r h => by simp [spec_ReadEvent.l1] at h⟩
  | k + 1 => by
    obtain ⟨ih0, ih1, ih2, ih3⟩ := spec_ReadEvent.mono_l k
    refine ⟨?_, ?_, ?_, ?_⟩
    · intro y0 y1
      unfold spec_ReadEvent.j0
      repeat' first
      | (with_reducible exact ih0 _ _)
      | (with_reducible exact ih1 _ _)
      | (with_reducible exact ih2 _ _ _ _)
      | (with_reducible exact ih3 _ _ _ _ _ _ _)
      | (with_reducible exact spec_PartsOf.mono _ _)
      | (with_reducible exact spec_ReadDecimal.mono _ _)
      | (with_reducible exact LeO.refl _)
      | (with_reducible exact LeO.none _)
      | (with_reducible refine LeO.ite ?_ ?_)
      | (with_reducible refine LeO.bind ?_ (fun _ => ?_))
      | exact ih0 _ _
      | exact ih1 _ _
      | exact ih2 _ _ _ _
      | exact ih3 _ _ _ _ _ _ _
      | exact spec_PartsOf.mono _ _
      | exact spec_ReadDecimal.mono _ _
      | exact LeO.none _
      | refine LeO.ite ?_ ?_
      | refine LeO.bind ?_ (fun _ => ?_)
    · intro y0 y1
      unfold spec_ReadEvent.l0
      repeat' first
      | (with_reducible exact ih0 _ _)
      | (with_reducible exact ih1 _ _)
      | (with_reducible exact ih2 _ _ _ _)
      | (with_reducible exact ih3 _ _ _ _ _ _ _)
      | (with_reducible exact spec_PartsOf.mono _ _)
      | (with_reducible exact spec_ReadDecimal.mono _ _)
      | (with_reducible exact LeO.refl _)
      | (with_reducible exact LeO.none _)
      | (with_reducible refine LeO.ite ?_ ?_)
      | (with_reducible refine LeO.bind ?_ (fun _ => ?_))
      | exact ih0 _ _
      | exact ih1 _ _
      | exact ih2 _ _ _ _
      | exact ih3 _ _ _ _ _ _ _
      | exact spec_PartsOf.mono _ _
      | exact spec_ReadDecimal.mono _ _
      | exact LeO.none _
      | refine LeO.ite ?_ ?_
      | refine LeO.bind ?_ (fun _ => ?_)
    · intro y0 y1 y2 y3
      unfold spec_ReadEvent.j2
      repeat' first
      | (with_reducible exact ih0 _ _)
      | (with_reducible exact ih1 _ _)
      | (with_reducible exact ih2 _ _ _ _)
      | (with_reducible exact ih3 _ _ _ _ _ _ _)
      | (with_reducible exact spec_PartsOf.mono _ _)
      | (with_reducible exact spec_ReadDecimal.mono _ _)
      | (with_reducible exact LeO.refl _)
      | (with_reducible exact LeO.none _)
      | (with_reducible refine LeO.ite ?_ ?_)
      | (with_reducible refine LeO.bind ?_ (fun _ => ?_))
      | exact ih0 _ _
      | exact ih1 _ _
      | exact ih2 _ _ _ _
      | exact ih3 _ _ _ _ _ _ _
      | exact spec_PartsOf.mono _ _
      | exact spec_ReadDecimal.mono _ _
      | exact LeO.none _
      | refine LeO.ite ?_ ?_
      | refine LeO.bind ?_ (fun _ => ?_)
    · intro y0 y1 y2 y3 y4 y5 y6
      unfold spec_ReadEvent.l1
      repeat' first
      | (with_reducible exact ih0 _ _)
      | (with_reducible exact ih1 _ _)
      | (with_reducible exact ih2 _ _ _ _)
      | (with_reducible exact ih3 _ _ _ _ _ _ _)
      | (with_reducible exact spec_PartsOf.mono _ _)
      | (with_reducible exact spec_ReadDecimal.mono _ _)
      | (with_reducible exact LeO.refl _)
      | (with_reducible exact LeO.none _)
      | (with_reducible refine LeO.ite ?_ ?_)
      | (with_reducible refine LeO.bind ?_ (fun _ => ?_))
      | exact ih0 _ _
      | exact ih1 _ _
      | exact ih2 _ _ _ _
      | exact ih3 _ _ _ _ _ _ _
      | exact spec_PartsOf.mono _ _
      | exact spec_ReadDecimal.mono _ _
      | exact LeO.none _
      | refine LeO.ite ?_ ?_
      | refine LeO.bind ?_ (fun _ => ?_)
theorem spec_ReadEvent.mono : ∀ a0 k, LeO (spec_ReadEvent.f k a0) (spec_ReadEvent.f (k + 1) a0) := by
  intro a0 k
  obtain ⟨ih0, ih1, ih2, ih3⟩ := spec_ReadEvent.mono_l k
  unfold spec_ReadEvent.f
  repeat' first
      | (with_reducible exact ih0 _ _)
      | (with_reducible exact ih1 _ _)
      | (with_reducible exact ih2 _ _ _ _)
      | (with_reducible exact ih3 _ _ _ _ _ _ _)
      | (with_reducible exact spec_PartsOf.mono _ _)
      | (with_reducible exact spec_ReadDecimal.mono _ _)
      | (with_reducible exact LeO.refl _)
      | (with_reducible exact LeO.none _)
      | (with_reducible refine LeO.ite ?_ ?_)
      | (with_reducible refine LeO.bind ?_ (fun _ => ?_))
      | exact ih0 _ _
      | exact ih1 _ _
      | exact ih2 _ _ _ _
      | exact ih3 _ _ _ _ _ _ _
      | exact spec_PartsOf.mono _ _
      | exact spec_ReadDecimal.mono _ _
      | exact LeO.none _
      | refine LeO.ite ?_ ?_
      | refine LeO.bind ?_ (fun _ => ?_)
set_option maxHeartbeats 8000000 in
set_option maxRecDepth 100000 in
theorem spec_ReadEvent.calls (k : Nat) (a0 : ByteArray) (r1 : Int) (r2 : Int) (r3 : Int) (r4 : Int) (r5 : Bool) (w : World) (h : spec_ReadEvent.f k a0 = some (r1, r2, r3, r4, r5)) :
    Calls Try.prog 20 #[.string a0] w fun e w' => e = .returned (.tuple #[.agg #[.int .i64 r1, .int .i64 r2, .int .i64 r3, .int .i64 r4], .bool r5]) ∧ Below w.heap.size w w' := by
  have hu29 := Try.underlying29
  have HB := Aside0.mk (Below.refl w.heap.size w)
  have H : ((spec_PartsOf.f k a0).bind fun bt196 => (if bt196.2 = true then (spec_ReadEvent.j0 k bt196.1 ((bt196.1.length : Int) == 0)) else (spec_ReadEvent.j0 k bt196.1 true))) = some (r1, r2, r3, r4, r5) := h
  clear h
  replace H := Option.bind_eq_some_iff.mp H
  obtain ⟨⟨t196, t197⟩, A20, H⟩ := H
  replace H : (if t197 = true then (spec_ReadEvent.j0 k t196 ((t196.length : Int) == 0)) else (spec_ReadEvent.j0 k t196 true)) = some (r1, r2, r3, r4, r5) := H
  have A2 := Aside0.mk A20
  clear A20
  have HC3 := Aside0.mk H
  clear H
  go_enter Try.func20, Try.ntmps20
  go_upto_region 2 with (first | ((with_reducible refine gate_dst (N := 2) rfl ?_); (try (refine gate_guard (by rfl) ?_; dsimp only)); refine box_event ?hg (N := 2) ?hd (cs := #[.int .i64 0, .int .i64 0, .int .i64 0, .int .i64 0]) (t := 29) ?hr ?_; (case hd => rfl); (case hg => rfl); (case hr => first | (go_simp; done) | (go_simp; rfl)); intro gb195 hg w4 hbox hb; have n0_ := Aside0.mk (below_step (by repeat (first | (with_reducible first | exact HB.out | apply below_alloc | apply pw_below_drewN | apply below_drew1) | exact HB.out)) hb); have n1_ := Aside0.mk (hbox); have n2_ := Aside0.mk ((by rw [hg]; exact (below_size (by repeat (first | (with_reducible first | exact HB.out | apply below_alloc | apply pw_below_drewN | apply below_drew1) | exact HB.out))) : w.heap.size ≤ gb195)); have n3_ := Aside0.mk ((by rw [hg]; exact (below_size (by repeat (first | (with_reducible first | exact HB.out | apply below_alloc | apply pw_below_drewN | apply below_drew1) | exact HB.out))) : w.heap.size ≤ gb195)); clear HB; have HB := n0_; have BK195 := n1_; have GW195 := n2_; have GE195 := n3_; clear n0_ n1_ n2_ n3_; clear hb hbox hg) | ((with_reducible refine gate_callee (f := 76) rfl ?_); refine goesL_ (some 15) rfl rfl Try.func76 (by kernel_rfl) rfl #[.string a0] rfl (by (try simp only [List.map_toArray, List.map_cons, List.map_nil]); first | done | rfl | (simp only [List.length_drop, List.length_take]; rfl)) ?_; (with_reducible refine (spec_PartsOf.calls k a0 t196 t197 _ A2.out).mono ?_); rintro e w5 ⟨v198, rfl, ho0, hb⟩; refine ⟨_, rfl, ?_⟩; have n0_ := Aside0.mk (Kd.R_lower ho0 (below_size (by repeat (first | (with_reducible first | exact HB.out | apply below_alloc | apply pw_below_drewN | apply below_drew1 | refine below_set ?_ GE195.out) | exact HB.out)))); have n1_ := Aside0.mk (blk_below (g := gb195) (o := .cells #[.int .i64 0, .int .i64 0, .int .i64 0, .int .i64 0] 29 (0, 0)) (by (with_reducible repeat (first | refine blk_drewN ?_ _ | refine blk_drew ?_ | refine blk_alloc ?_ _)); exact BK195.out) hb); have n2_ := Aside0.mk (below_step (by repeat (first | (with_reducible first | exact HB.out | apply below_alloc | apply pw_below_drewN | apply below_drew1 | refine below_set ?_ GE195.out) | exact HB.out)) hb); clear BK195; clear HB; have HO199 := n0_; have BK195 := n1_; have HB := n2_; clear n0_ n1_ n2_; (try clear hb); (try clear hb2); (try clear hk); (try clear hi); (try clear ho0)))
  (try simp only [Act.put, List.setIfInBounds_toArray, List.set_cons_zero, List.set_cons_succ])
  go_cut [24] (fun v24 wc => ∃ (kq : Nat) (x24_2 : Bool), v24 = .bool x24_2 ∧ Aside0 (spec_ReadEvent.j0 kq t196 x24_2 = some (r1, r2, r3, r4, r5)) ∧ Aside0 (kq ≤ k) ∧ Aside0 (Kd.R Kd.string 9 wc w.heap.size (fun _ => True) v198 t196) ∧ Aside0 (wc.heap[gb195]? = some (.cells #[.int .i64 0, .int .i64 0, .int .i64 0, .int .i64 0] 29 (0, 0))) ∧ Aside0 (Below w.heap.size w wc))
  case first =>
    have H := HC3.out
    clear HC3
    by_cases c6 : t197 = true
    · subst c6
      have H1 : (spec_ReadEvent.j0 k t196 ((t196.length : Int) == 0)) = some (r1, r2, r3, r4, r5) := by rw [if_pos rfl] at H; exact H
      clear H
      have H := H1
      clear H1
      have H' := Aside0.mk H
      clear H
      obtain ⟨Ao7, co7, eo7⟩ := Kd.R_slice HO199.out
      subst eo7
      go_wp2
      go_meet
      case rel => exact ⟨_, (((t196.length : Int) == 0)), (by first | rfl | (simp; done) | (simp [*]; done)), H', ⟨by first | omega | exact Nat.le_refl _⟩, ⟨by (with_reducible repeat (first | apply Kd.R_alloc | apply Kd.R_drewN | apply Kd.R_drew)); exact HO199.out⟩, ⟨by (with_reducible repeat (first | refine blk_drewN ?_ _ | refine blk_drew ?_ | refine blk_alloc ?_ _)); exact BK195.out⟩, ⟨by repeat (first | (with_reducible first | exact HB.out | apply below_alloc | apply pw_below_drewN | apply below_drew1 | refine below_set ?_ GE195.out) | exact HB.out)⟩⟩
    · replace c6 := Bool.eq_false_iff.mpr c6
      subst c6
      have H1 : (spec_ReadEvent.j0 k t196 true) = some (r1, r2, r3, r4, r5) := by rw [if_neg (show ¬ (false = true) by decide)] at H; exact H
      clear H
      have H := H1
      clear H1
      have H' := Aside0.mk H
      clear H
      go_wp2
      go_meet
      case rel => exact ⟨_, (true), (by first | rfl | (simp; done) | (simp [*]; done)), H', ⟨by first | omega | exact Nat.le_refl _⟩, ⟨by (with_reducible repeat (first | apply Kd.R_alloc | apply Kd.R_drewN | apply Kd.R_drew)); exact HO199.out⟩, ⟨by (with_reducible repeat (first | refine blk_drewN ?_ _ | refine blk_drew ?_ | refine blk_alloc ?_ _)); exact BK195.out⟩, ⟨by repeat (first | (with_reducible first | exact HB.out | apply below_alloc | apply pw_below_drewN | apply below_drew1 | refine below_set ?_ GE195.out) | exact HB.out)⟩⟩
  case rest =>
    clear HC3
    try clear c2
    try clear p2
    try clear c6
    try clear c7
    obtain ⟨kq, x24_2, rfl, HA, HJ2, HO_4, BK195, HB⟩ := hcut
    cases kq with
    | zero => exact absurd HA.out (by simp [spec_ReadEvent.j0])
    | succ kj2 =>
      have H := HA.out
      clear HA
      simp only [spec_ReadEvent.j0] at H
      by_cases c8 : x24_2 = true
      · subst c8
        have H1 : (some (0, 0, 0, 0, false)) = some (r1, r2, r3, r4, r5) := by rw [if_pos rfl] at H; exact H
        clear H
        have H := H1
        clear H1
        simp only [Option.some.injEq, Prod.mk.injEq] at H
        obtain ⟨rfl, rfl, rfl, rfl, rfl⟩ := H
        have hcz9_0 : wc.cell? ⟨gb195, 0, none⟩ = some (.int .i64 0) := (blk_cell BK195.out 0).trans rfl
        have hcz9_1 : wc.cell? ⟨gb195, 1, none⟩ = some (.int .i64 0) := (blk_cell BK195.out 1).trans rfl
        have hcz9_2 : wc.cell? ⟨gb195, 2, none⟩ = some (.int .i64 0) := (blk_cell BK195.out 2).trans rfl
        have hcz9_3 : wc.cell? ⟨gb195, 3, none⟩ = some (.int .i64 0) := (blk_cell BK195.out 3).trans rfl
        have hfz9_0 := blk_frozen BK195.out 0
        have hfz9_1 := blk_frozen BK195.out 1
        have hfz9_2 := blk_frozen BK195.out 2
        have hfz9_3 := blk_frozen BK195.out 3
        go_wp2
        refine bodyPost_ret (results_ct rfl _ _ gb195 29 #[.int .i64 0, .int .i64 0, .int .i64 0, .int .i64 0] (0, 0) _ rfl (by (with_reducible repeat (first | refine blk_drewN ?_ _ | refine blk_drew ?_ | refine blk_alloc ?_ _)); refine blk_put (cs := #[.int .i64 0, .int .i64 0, .int .i64 0, .int .i64 0]) ?_ 3 _ rfl; (with_reducible repeat (first | refine blk_drewN ?_ _ | refine blk_drew ?_ | refine blk_alloc ?_ _)); refine blk_put (cs := #[.int .i64 0, .int .i64 0, .int .i64 0, .int .i64 0]) ?_ 2 _ rfl; (with_reducible repeat (first | refine blk_drewN ?_ _ | refine blk_drew ?_ | refine blk_alloc ?_ _)); refine blk_put (cs := #[.int .i64 0, .int .i64 0, .int .i64 0, .int .i64 0]) ?_ 1 _ rfl; (with_reducible repeat (first | refine blk_drewN ?_ _ | refine blk_drew ?_ | refine blk_alloc ?_ _)); refine blk_put (cs := #[.int .i64 0, .int .i64 0, .int .i64 0, .int .i64 0]) ?_ 0 _ rfl; (with_reducible repeat (first | refine blk_drewN ?_ _ | refine blk_drew ?_ | refine blk_alloc ?_ _)); exact BK195.out) Try.underlying29 rfl (by kernel_rfl)) rfl ?_
        exact ⟨by first | rfl | (simp [errW_none, errW_some] <;> rfl) | (simp [*, errW_none, errW_some] <;> rfl), by repeat (first | (with_reducible first | exact HB.out | apply below_alloc | apply pw_below_drewN | apply below_drew1 | refine below_set ?_ GE195.out) | exact HB.out)⟩
      · replace c8 := Bool.eq_false_iff.mpr c8
        subst c8
        have H1 : (spec_ReadEvent.l0 kj2 t196 1) = some (r1, r2, r3, r4, r5) := by rw [if_neg (show ¬ (false = true) by decide)] at H; exact H
        clear H
        have H := H1
        clear H1
        have H' := Aside0.mk H
        clear H
        go_wp2
        go_loopg [6] kj2 (fun kq v6 w' => ∃ (x6_2 : Int) (x196000_2 : Int) (x196001_2 : Int) (x196002_2 : Int) (x196003_2 : Int), v6 = .int .i64 x6_2 ∧ Aside0 (spec_ReadEvent.l0 kq t196 x6_2 = some (r1, r2, r3, r4, r5)) ∧ Aside0 (kq ≤ kj2) ∧ Aside0 (Kd.R Kd.string 9 w' w.heap.size (fun _ => True) v198 t196) ∧ Aside0 (w'.heap[gb195]? = some (.cells #[.int .i64 x196000_2, .int .i64 x196001_2, .int .i64 x196002_2, .int .i64 x196003_2] 29 (0, 0))) ∧ Aside0 (Below w.heap.size w w'))
        case atStart => exact ⟨(1), (0), (0), (0), (0), (by first | rfl | (simp; done) | (simp [*]; done)), H', ⟨Nat.le_refl _⟩, ⟨by (with_reducible repeat (first | apply Kd.R_alloc | apply Kd.R_drewN | apply Kd.R_drew)); exact HO_4.out⟩, ⟨by (with_reducible repeat (first | refine blk_drewN ?_ _ | refine blk_drew ?_ | refine blk_alloc ?_ _)); exact BK195.out⟩, ⟨by repeat (first | (with_reducible first | exact HB.out | apply below_alloc | apply pw_below_drewN | apply below_drew1 | refine below_set ?_ GE195.out) | exact HB.out)⟩⟩
        case round =>
          clear H'
          try clear c2
          try clear p2
          try clear c6
          try clear c7
          try clear c8
          try clear hcz9_0
          try clear hcz9_1
          try clear hcz9_2
          try clear hcz9_3
          try clear hfz9_0
          try clear hfz9_1
          try clear hfz9_2
          try clear hfz9_3
          try clear p2
          obtain ⟨x6_2, x196000_2, x196001_2, x196002_2, x196003_2, rfl, HA, HK2, HO_4, BK195, HB⟩ := hrel
          cases gk with
          | zero => exact absurd HA.out (by simp [spec_ReadEvent.l0])
          | succ k2 =>
            have H := HA.out
            clear HA
            simp only [spec_ReadEvent.l0] at H
            by_cases c10 : x6_2 ≤ 9
            · rw [if_pos c10] at H
              have c10b0 : decide (x6_2 ≤ 9) = true := decide_eq_true c10
              clear c10
              replace H := Option.bind_eq_some_iff.mp H
              obtain ⟨⟨t200, t201⟩, A110, H⟩ := H
              replace H : (if 0 < (t196.length : Int) then (if t200.toList = (rdOf ByteArray.empty t196 0).toList then (spec_ReadEvent.j2 k2 t196 x6_2 t201 ((t196.length : Int) != (wrap64 (t201 + 1)))) else (spec_ReadEvent.j2 k2 t196 x6_2 t201 true)) else (none)) = some (r1, r2, r3, r4, r5) := H
              have A11 := Aside0.mk A110
              clear A110
              have HC12 := Aside0.mk H
              clear H
              go_upto_region 8 with (first | ((with_reducible refine gate_callee (f := 77) rfl ?_); refine goesL_ (some 32) rfl rfl Try.func77 (by kernel_rfl) rfl #[.int .i64 x6_2] rfl (by (try simp only [List.map_toArray, List.map_cons, List.map_nil]); first | done | rfl | (simp only [List.length_drop, List.length_take]; rfl)) ?_; (with_reducible refine (spec_l33Word.calls x6_2 t200 t201 _ A11.out).mono ?_); rintro e w' ⟨rfl, ⟨nd, rfl⟩⟩; refine ⟨_, rfl, ?_⟩))
              (try simp only [Act.put, List.setIfInBounds_toArray, List.set_cons_zero, List.set_cons_succ])
              go_cut [46] (fun v46 wc => ∃ (kq : Nat) (x46_11 : Bool), v46 = .bool x46_11 ∧ Aside0 (spec_ReadEvent.j2 kq t196 x6_2 t201 x46_11 = some (r1, r2, r3, r4, r5)) ∧ Aside0 (kq ≤ k2) ∧ Aside0 (Kd.R Kd.string 9 wc w.heap.size (fun _ => True) v198 t196) ∧ Aside0 (wc.heap[gb195]? = some (.cells #[.int .i64 x196000_2, .int .i64 x196001_2, .int .i64 x196002_2, .int .i64 x196003_2] 29 (0, 0))) ∧ Aside0 (Below w.heap.size w wc))
              case first =>
                have H := HC12.out
                clear HC12
                by_cases c13 : 0 < (t196.length : Int)
                · rw [if_pos c13] at H
                  have c13b0 : decide (0 < (t196.length : Int)) = true := decide_eq_true c13
                  have c13b1 : decide (0 < t196.length) = true := decide_eq_true (by omega)
                  clear c13
                  (first | rw [c13b0] | (simp only [i64_w, i32_w]; rw [c13b0]) | skip)
                  by_cases c14 : t200.toList = (rdOf ByteArray.empty t196 0).toList
                  · rw [if_pos c14] at H
                    have c14b0 : (t200.toList == (rdOf ByteArray.empty t196 0).toList) = true := beq_iff_eq.mpr c14
                    have c14b1 : (t200.toList != (rdOf ByteArray.empty t196 0).toList) = false := bne_eq_false_iff_eq.mpr c14
                    clear c14
                    have H' := Aside0.mk H
                    clear H
                    obtain ⟨Ao15, co15, eo15⟩ := Kd.R_slice HO_4.out
                    subst eo15
                    have p202 : 0 ≤ (0 : Int) := (by omega)
                    have q202 : 0 < (t196.length : Int) := of_decide_eq_true (by first | (with_reducible assumption) | assumption)
                    obtain ⟨ad202, e202, hx202_0⟩ := Kd.at_string (Kd.R_reads' HO_4.out).2.2 0 p202 q202
                    cases e202
                    have qi202 : (0 < t196.length) = True := eq_true (by omega)
                    (try rw [show ((0 : Int)).toNat = 0 from rfl] at hx202_0)
                    (try rw [Addr.add_zero'] at hx202_0)
                    replace p202 := eq_true p202
                    replace q202 := eq_true q202
                    go_wp2
                    go_meet
                    case rel => exact ⟨_, (((t196.length : Int) != (wrap64 (t201 + 1)))), (by first | rfl | (simp; done) | (simp [*]; done)), H', ⟨by have := HJ2.out; have := HK2.out; first | omega | exact Nat.le_refl _⟩, ⟨by (with_reducible repeat (first | apply Kd.R_alloc | apply Kd.R_drewN | apply Kd.R_drew)); exact HO_4.out⟩, ⟨by (with_reducible repeat (first | refine blk_drewN ?_ _ | refine blk_drew ?_ | refine blk_alloc ?_ _)); exact BK195.out⟩, ⟨by repeat (first | (with_reducible first | exact HB.out | apply below_alloc | apply pw_below_drewN | apply below_drew1 | refine below_set ?_ GE195.out) | exact HB.out)⟩⟩
                  · rw [if_neg c14] at H
                    have c14b0 : (t200.toList == (rdOf ByteArray.empty t196 0).toList) = false := beq_eq_false_iff_ne.mpr c14
                    have c14b1 : (t200.toList != (rdOf ByteArray.empty t196 0).toList) = true := bne_iff_ne.mpr c14
                    have H' := Aside0.mk H
                    clear H
                    obtain ⟨Ao16, co16, eo16⟩ := Kd.R_slice HO_4.out
                    subst eo16
                    have p202 : 0 ≤ (0 : Int) := (by omega)
                    have q202 : 0 < (t196.length : Int) := of_decide_eq_true (by first | (with_reducible assumption) | assumption)
                    obtain ⟨ad202, e202, hx202_0⟩ := Kd.at_string (Kd.R_reads' HO_4.out).2.2 0 p202 q202
                    cases e202
                    have qi202 : (0 < t196.length) = True := eq_true (by omega)
                    (try rw [show ((0 : Int)).toNat = 0 from rfl] at hx202_0)
                    (try rw [Addr.add_zero'] at hx202_0)
                    replace p202 := eq_true p202
                    replace q202 := eq_true q202
                    go_wp2
                    go_meet
                    case rel => exact ⟨_, (true), (by first | rfl | (simp; done) | (simp [*]; done)), H', ⟨by have := HJ2.out; have := HK2.out; first | omega | exact Nat.le_refl _⟩, ⟨by (with_reducible repeat (first | apply Kd.R_alloc | apply Kd.R_drewN | apply Kd.R_drew)); exact HO_4.out⟩, ⟨by (with_reducible repeat (first | refine blk_drewN ?_ _ | refine blk_drew ?_ | refine blk_alloc ?_ _)); exact BK195.out⟩, ⟨by repeat (first | (with_reducible first | exact HB.out | apply below_alloc | apply pw_below_drewN | apply below_drew1 | refine below_set ?_ GE195.out) | exact HB.out)⟩⟩
                · rw [if_neg c13] at H
                  exact absurd H (by simp)
              case rest =>
                clear HC12
                try clear c1
                try clear c2
                try clear p2
                try clear q2
                try clear hx2
                try clear qi2
                try clear c6
                try clear p6
                try clear c7
                try clear c8
                try clear c10
                try clear c10b0
                try clear c13
                try clear c13b0
                try clear c13b1
                try clear c14
                try clear c14b0
                try clear c14b1
                try clear hcz9_0
                try clear hcz9_1
                try clear hcz9_2
                try clear hcz9_3
                try clear hfz9_0
                try clear hfz9_1
                try clear hfz9_2
                try clear hfz9_3
                try clear hx202_0
                try clear p2
                try clear p202
                try clear q202
                obtain ⟨kq, x46_11, rfl, HA, HJ11, HO_4, BK195, HB⟩ := hcut
                cases kq with
                | zero => exact absurd HA.out (by simp [spec_ReadEvent.j2])
                | succ kj11 =>
                  have H := HA.out
                  clear HA
                  simp only [spec_ReadEvent.j2] at H
                  by_cases c17 : x46_11 = true
                  · subst c17
                    have H1 : (spec_ReadEvent.l0 kj11 t196 (wrap64 (x6_2 + 1))) = some (r1, r2, r3, r4, r5) := by rw [if_pos rfl] at H; exact H
                    clear H
                    have H := H1
                    clear H1
                    have H' := Aside0.mk H
                    clear H
                    go_wp2
                    go_roundg kj11
                    case measure => have := HJ2.out; have := HK2.out; have := HJ11.out; omega
                    case rel => exact ⟨(wrap64 (x6_2 + 1)), (x196000_2), (x196001_2), (x196002_2), (x196003_2), (by first | rfl | (simp; done) | (simp [*]; done)), H', ⟨by have := HJ2.out; have := HK2.out; have := HJ11.out; omega⟩, ⟨by (with_reducible repeat (first | apply Kd.R_alloc | apply Kd.R_drewN | apply Kd.R_drew)); exact HO_4.out⟩, ⟨by (with_reducible repeat (first | refine blk_drewN ?_ _ | refine blk_drew ?_ | refine blk_alloc ?_ _)); exact BK195.out⟩, ⟨by repeat (first | (with_reducible first | exact HB.out | apply below_alloc | apply pw_below_drewN | apply below_drew1 | refine below_set ?_ GE195.out) | exact HB.out)⟩⟩
                  · replace c17 := Bool.eq_false_iff.mpr c17
                    subst c17
                    have H1 : (spec_ReadEvent.l1 kj11 t196 t201 0 x6_2 0 0 0) = some (r1, r2, r3, r4, r5) := by rw [if_neg (show ¬ (false = true) by decide)] at H; exact H
                    clear H
                    have H := H1
                    clear H1
                    have H' := Aside0.mk H
                    clear H
                    go_wp2_with (first | ((with_reducible refine gate_dst (N := 9) rfl ?_); (try (refine gate_guard (by rfl) ?_; dsimp only)); refine box_event ?hg (N := 9) ?hd (cs := #[.int .i64 0, .int .i64 0, .int .i64 0, .int .i64 0]) (t := 29) ?hr ?_; (case hd => rfl); (case hg => rfl); (case hr => first | (go_simp; done) | (go_simp; rfl)); intro gb203 hg w18 hbox hb; have n0_ := Aside0.mk (Kd.R_below (by (with_reducible repeat (first | apply Kd.R_alloc | apply Kd.R_drewN | apply Kd.R_drew)); exact HO_4.out) hb); have n1_ := Aside0.mk (blk_below (g := gb195) (o := .cells #[.int .i64 x196000_2, .int .i64 x196001_2, .int .i64 x196002_2, .int .i64 x196003_2] 29 (0, 0)) (by (with_reducible repeat (first | refine blk_drewN ?_ _ | refine blk_drew ?_ | refine blk_alloc ?_ _)); exact BK195.out) hb); have n2_ := Aside0.mk (below_step (by repeat (first | (with_reducible first | exact HB.out | apply below_alloc | apply pw_below_drewN | apply below_drew1 | refine below_set ?_ GE195.out) | exact HB.out)) hb); have n3_ := Aside0.mk (hbox); have n4_ := Aside0.mk ((by rw [hg]; exact (below_size (by repeat (first | (with_reducible first | exact HB.out | apply below_alloc | apply pw_below_drewN | apply below_drew1 | refine below_set ?_ GE195.out) | exact HB.out))) : w.heap.size ≤ gb203)); have n5_ := Aside0.mk ((by rw [hg]; exact (below_size (by repeat (first | (with_reducible first | exact HB.out | apply below_alloc | apply pw_below_drewN | apply below_drew1 | refine below_set ?_ GE195.out) | exact HB.out))) : w.heap.size ≤ gb203)); have n6_ := Aside0.mk ((by rw [hg]; exact Nat.ne_of_lt (blk_lt (g := gb195) (o := .cells #[.int .i64 x196000_2, .int .i64 x196001_2, .int .i64 x196002_2, .int .i64 x196003_2] 29 (0, 0)) (by (with_reducible repeat (first | refine blk_drewN ?_ _ | refine blk_drew ?_ | refine blk_alloc ?_ _)); exact BK195.out)) : gb195 ≠ gb203)); have n7_ := Aside0.mk ((by rw [hg]; exact Nat.ne_of_gt (blk_lt (g := gb195) (o := .cells #[.int .i64 x196000_2, .int .i64 x196001_2, .int .i64 x196002_2, .int .i64 x196003_2] 29 (0, 0)) (by (with_reducible repeat (first | refine blk_drewN ?_ _ | refine blk_drew ?_ | refine blk_alloc ?_ _)); exact BK195.out)) : gb203 ≠ gb195)); clear HO_4; clear BK195; clear HB; have HO_4 := n0_; have BK195 := n1_; have HB := n2_; have BK203 := n3_; have GW203 := n4_; have GE203 := n5_; have NB195_203 := n6_; have NB203_195 := n7_; clear n0_ n1_ n2_ n3_ n4_ n5_ n6_ n7_; clear hb hbox hg; have hnb19 := NB203_195.out; have hnc19 := NB195_203.out; have hcz20_0 : w18.cell? ⟨gb203, 0, none⟩ = some (.int .i64 0) := (blk_cell BK203.out 0).trans rfl; have hcz20_1 : w18.cell? ⟨gb203, 1, none⟩ = some (.int .i64 0) := (blk_cell BK203.out 1).trans rfl; have hcz20_2 : w18.cell? ⟨gb203, 2, none⟩ = some (.int .i64 0) := (blk_cell BK203.out 2).trans rfl; have hcz20_3 : w18.cell? ⟨gb203, 3, none⟩ = some (.int .i64 0) := (blk_cell BK203.out 3).trans rfl; have hfz20_0 := blk_frozen BK203.out 0; have hfz20_1 := blk_frozen BK203.out 1; have hfz20_2 := blk_frozen BK203.out 2; have hfz20_3 := blk_frozen BK203.out 3))
                    go_loopg [10] kj11 (fun kq v10 w' => ∃ (x10_4 : Int) (x196000_4 : Int) (x196001_4 : Int) (x196002_4 : Int) (x196003_4 : Int) (x204001_4 : Int) (x204002_4 : Int) (x204003_4 : Int), v10 = .int .i64 x10_4 ∧ Aside0 (spec_ReadEvent.l1 kq t196 t201 x10_4 x6_2 x204001_4 x204002_4 x204003_4 = some (r1, r2, r3, r4, r5)) ∧ Aside0 (kq ≤ kj11) ∧ Aside0 (Kd.R Kd.string 9 w' w.heap.size (fun _ => True) v198 t196) ∧ Aside0 (w'.heap[gb195]? = some (.cells #[.int .i64 x196000_4, .int .i64 x196001_4, .int .i64 x196002_4, .int .i64 x196003_4] 29 (0, 0))) ∧ Aside0 (w'.heap[gb203]? = some (.cells #[.int .i64 x6_2, .int .i64 x204001_4, .int .i64 x204002_4, .int .i64 x204003_4] 29 (0, 0))) ∧ Aside0 (Below w.heap.size w w'))
                    case atStart => exact ⟨(0), (x196000_2), (x196001_2), (x196002_2), (x196003_2), (0), (0), (0), (by first | rfl | (simp; done) | (simp [*]; done)), H', ⟨Nat.le_refl _⟩, ⟨by (with_reducible repeat (first | apply Kd.R_alloc | apply Kd.R_drewN | apply Kd.R_drew)); exact Kd.R_mono (Kd.R_far (p := ⟨gb203, 3, none⟩) (Kd.R_far (p := ⟨gb203, 2, none⟩) (Kd.R_far (p := ⟨gb203, 1, none⟩) (Kd.R_far (p := ⟨gb203, 0, none⟩) (Kd.R_types HO_4.out BK203.out (by decide)) (fun _ hk => hk.2) (.int .i64 x6_2)) (fun _ hk => hk.2) (.int .i64 0)) (fun _ hk => hk.2) (.int .i64 0)) (fun _ hk => hk.2) (.int .i64 0)) (fun _ hk => trivial)⟩, ⟨by (with_reducible repeat (first | refine blk_drewN ?_ _ | refine blk_drew ?_ | refine blk_alloc ?_ _)); refine blk_far ?_ NB195_203.out _; (with_reducible repeat (first | refine blk_drewN ?_ _ | refine blk_drew ?_ | refine blk_alloc ?_ _)); refine blk_far ?_ NB195_203.out _; (with_reducible repeat (first | refine blk_drewN ?_ _ | refine blk_drew ?_ | refine blk_alloc ?_ _)); refine blk_far ?_ NB195_203.out _; (with_reducible repeat (first | refine blk_drewN ?_ _ | refine blk_drew ?_ | refine blk_alloc ?_ _)); refine blk_far ?_ NB195_203.out _; (with_reducible repeat (first | refine blk_drewN ?_ _ | refine blk_drew ?_ | refine blk_alloc ?_ _)); exact BK195.out⟩, ⟨by (with_reducible repeat (first | refine blk_drewN ?_ _ | refine blk_drew ?_ | refine blk_alloc ?_ _)); refine blk_put (cs := #[.int .i64 x6_2, .int .i64 0, .int .i64 0, .int .i64 0]) ?_ 3 _ rfl; (with_reducible repeat (first | refine blk_drewN ?_ _ | refine blk_drew ?_ | refine blk_alloc ?_ _)); refine blk_put (cs := #[.int .i64 x6_2, .int .i64 0, .int .i64 0, .int .i64 0]) ?_ 2 _ rfl; (with_reducible repeat (first | refine blk_drewN ?_ _ | refine blk_drew ?_ | refine blk_alloc ?_ _)); refine blk_put (cs := #[.int .i64 x6_2, .int .i64 0, .int .i64 0, .int .i64 0]) ?_ 1 _ rfl; (with_reducible repeat (first | refine blk_drewN ?_ _ | refine blk_drew ?_ | refine blk_alloc ?_ _)); refine blk_put (cs := #[.int .i64 0, .int .i64 0, .int .i64 0, .int .i64 0]) ?_ 0 _ rfl; (with_reducible repeat (first | refine blk_drewN ?_ _ | refine blk_drew ?_ | refine blk_alloc ?_ _)); exact BK203.out⟩, ⟨by repeat (first | (with_reducible first | exact HB.out | apply below_alloc | apply pw_below_drewN | apply below_drew1 | refine below_set ?_ GE195.out | refine below_set ?_ GE203.out) | exact HB.out)⟩⟩
                    case round =>
                      clear H'
                      try clear c1
                      try clear c2
                      try clear p2
                      try clear q2
                      try clear hx2
                      try clear qi2
                      try clear c6
                      try clear p6
                      try clear c7
                      try clear c8
                      try clear c10
                      try clear c10b0
                      try clear c13
                      try clear c13b0
                      try clear c13b1
                      try clear c14
                      try clear c14b0
                      try clear c14b1
                      try clear c17
                      try clear c19
                      try clear c20
                      try clear p20
                      try clear q20
                      try clear hx20
                      try clear qi20
                      try clear hcz20_0
                      try clear hcz20_1
                      try clear hcz20_2
                      try clear hcz20_3
                      try clear hcz9_0
                      try clear hcz9_1
                      try clear hcz9_2
                      try clear hcz9_3
                      try clear hfz20_0
                      try clear hfz20_1
                      try clear hfz20_2
                      try clear hfz20_3
                      try clear hfz9_0
                      try clear hfz9_1
                      try clear hfz9_2
                      try clear hfz9_3
                      try clear hx202_0
                      try clear p2
                      try clear p202
                      try clear p6
                      try clear q2
                      try clear q202
                      obtain ⟨x10_4, x196000_4, x196001_4, x196002_4, x196003_4, x204001_4, x204002_4, x204003_4, rfl, HA, HK4, HO_4, BK195, BK203, HB⟩ := hrel
                      cases gk with
                      | zero => exact absurd HA.out (by simp [spec_ReadEvent.l1])
                      | succ k4 =>
                        have H := HA.out
                        clear HA
                        simp only [spec_ReadEvent.l1] at H
                        by_cases c21 : x10_4 < t201
                        · rw [if_pos c21] at H
                          have c21b0 : decide (x10_4 < t201) = true := decide_eq_true c21
                          clear c21
                          obtain ⟨ji22, hji22⟩ : ∃ j_ : Int, (wrap64 (x10_4 + 1)) = j_ := ⟨_, rfl⟩
                          replace H : (if 0 ≤ (ji22) then (if (ji22) < (t196.length : Int) then ((spec_ReadDecimal.f k4 (rdOf ByteArray.empty t196 (ji22))).bind fun bt205 => (if bt205.2 = true then (if x10_4 = 0 then (spec_ReadEvent.l1 k4 t196 t201 ji22 x6_2 bt205.1 x204002_4 x204003_4) else (if x10_4 = 1 then (spec_ReadEvent.l1 k4 t196 t201 ji22 x6_2 x204001_4 bt205.1 x204003_4) else (spec_ReadEvent.l1 k4 t196 t201 ji22 x6_2 x204001_4 x204002_4 bt205.1))) else (some (0, 0, 0, 0, false)))) else (none)) else (none)) = some (r1, r2, r3, r4, r5) := by first | (rw [hji22] at H; exact H) | (simp only [hji22] at H ⊢; exact H)
                          have hji22w : (IntKind.i64.wrap (x10_4 + 1)) = ji22 := (i64_w _).trans hji22
                          by_cases c23 : 0 ≤ (ji22)
                          · rw [if_pos c23] at H
                            have c23b0 : decide (0 ≤ (ji22)) = true := decide_eq_true c23
                            clear c23
                            by_cases c24 : (ji22) < (t196.length : Int)
                            · rw [if_pos c24] at H
                              have c24b0 : decide ((ji22) < (t196.length : Int)) = true := decide_eq_true c24
                              clear c24
                              replace H := Option.bind_eq_some_iff.mp H
                              obtain ⟨⟨t205, t206⟩, A250, H⟩ := H
                              replace H : (if t206 = true then (if x10_4 = 0 then (spec_ReadEvent.l1 k4 t196 t201 ji22 x6_2 t205 x204002_4 x204003_4) else (if x10_4 = 1 then (spec_ReadEvent.l1 k4 t196 t201 ji22 x6_2 x204001_4 t205 x204003_4) else (spec_ReadEvent.l1 k4 t196 t201 ji22 x6_2 x204001_4 x204002_4 t205))) else (some (0, 0, 0, 0, false))) = some (r1, r2, r3, r4, r5) := H
                              have A25 := Aside0.mk A250
                              clear A250
                              by_cases c26 : t206 = true
                              · subst c26
                                have H1 : (if x10_4 = 0 then (spec_ReadEvent.l1 k4 t196 t201 ji22 x6_2 t205 x204002_4 x204003_4) else (if x10_4 = 1 then (spec_ReadEvent.l1 k4 t196 t201 ji22 x6_2 x204001_4 t205 x204003_4) else (spec_ReadEvent.l1 k4 t196 t201 ji22 x6_2 x204001_4 x204002_4 t205))) = some (r1, r2, r3, r4, r5) := by rw [if_pos rfl] at H; exact H
                                clear H
                                have H := H1
                                clear H1
                                by_cases c27 : x10_4 = 0
                                · rw [if_pos c27] at H
                                  have c27b0 : (x10_4 == 0) = true := beq_iff_eq.mpr c27
                                  have c27b1 : (x10_4 != 0) = false := bne_eq_false_iff_eq.mpr c27
                                  clear c27
                                  have H' := Aside0.mk H
                                  clear H
                                  obtain ⟨Ao28, co28, eo28⟩ := Kd.R_slice HO_4.out
                                  subst eo28
                                  have p204 : 0 ≤ ((ji22) : Int) := of_decide_eq_true (by first | (with_reducible assumption) | assumption)
                                  have q204 : (ji22) < (t196.length : Int) := of_decide_eq_true (by first | (with_reducible assumption) | assumption)
                                  obtain ⟨ad204, e204, hx204_0⟩ := Kd.at_string (Kd.R_reads' HO_4.out).2.2 (ji22) p204 q204
                                  cases e204
                                  replace p204 := eq_true p204
                                  replace q204 := eq_true q204
                                  go_wp2_with (first | ((with_reducible refine gate_callee (f := 78) rfl ?_); refine goesL_ (some 60) rfl rfl Try.func78 (by kernel_rfl) rfl #[.string (rdOf ByteArray.empty t196 (ji22))] rfl (by (try simp only [List.map_toArray, List.map_cons, List.map_nil]); first | done | (simp only [hji22]; rfl) | rfl | (simp only [List.length_drop, List.length_take]; rfl)) ?_; (with_reducible refine (spec_ReadDecimal.calls k4 (rdOf ByteArray.empty t196 (ji22)) t205 true _ A25.out).mono ?_); rintro e w29 ⟨rfl, hb⟩; refine ⟨_, rfl, ?_⟩; have n0_ := Aside0.mk (Kd.R_below (by (with_reducible repeat (first | apply Kd.R_alloc | apply Kd.R_drewN | apply Kd.R_drew)); exact HO_4.out) hb); have n1_ := Aside0.mk (blk_below (g := gb195) (o := .cells #[.int .i64 x196000_4, .int .i64 x196001_4, .int .i64 x196002_4, .int .i64 x196003_4] 29 (0, 0)) (by (with_reducible repeat (first | refine blk_drewN ?_ _ | refine blk_drew ?_ | refine blk_alloc ?_ _)); exact BK195.out) hb); have n2_ := Aside0.mk (blk_below (g := gb203) (o := .cells #[.int .i64 x6_2, .int .i64 x204001_4, .int .i64 x204002_4, .int .i64 x204003_4] 29 (0, 0)) (by (with_reducible repeat (first | refine blk_drewN ?_ _ | refine blk_drew ?_ | refine blk_alloc ?_ _)); exact BK203.out) hb); have n3_ := Aside0.mk (below_step (by repeat (first | (with_reducible first | exact HB.out | apply below_alloc | apply pw_below_drewN | apply below_drew1 | refine below_set ?_ GE195.out | refine below_set ?_ GE203.out) | exact HB.out)) hb); clear HO_4; clear BK195; clear BK203; clear HB; have HO_4 := n0_; have BK195 := n1_; have BK203 := n2_; have HB := n3_; clear n0_ n1_ n2_ n3_; (try clear hb); (try clear hb2); (try clear hk); (try clear hi); have hnb30 := NB203_195.out; have hnc30 := NB195_203.out; have hcz31_0 : w29.cell? ⟨gb203, 0, none⟩ = some (.int .i64 x6_2) := (blk_cell BK203.out 0).trans rfl; have hcz31_1 : w29.cell? ⟨gb203, 1, none⟩ = some (.int .i64 x204001_4) := (blk_cell BK203.out 1).trans rfl; have hcz31_2 : w29.cell? ⟨gb203, 2, none⟩ = some (.int .i64 x204002_4) := (blk_cell BK203.out 2).trans rfl; have hcz31_3 : w29.cell? ⟨gb203, 3, none⟩ = some (.int .i64 x204003_4) := (blk_cell BK203.out 3).trans rfl; have hfz31_0 := blk_frozen BK203.out 0; have hfz31_1 := blk_frozen BK203.out 1; have hfz31_2 := blk_frozen BK203.out 2; have hfz31_3 := blk_frozen BK203.out 3))
                                  go_roundg k4
                                  case measure => have := HJ2.out; have := HK2.out; have := HJ11.out; have := HK4.out; omega
                                  case rel => exact ⟨(ji22), (x196000_4), (x196001_4), (x196002_4), (x196003_4), (t205), (x204002_4), (x204003_4), (by first | rfl | (simp; done) | (simp only [← hji22] <;> (first | rfl | simp)) | (simp [*]; done)), H', ⟨by have := HJ2.out; have := HK2.out; have := HJ11.out; have := HK4.out; omega⟩, ⟨by (with_reducible repeat (first | apply Kd.R_alloc | apply Kd.R_drewN | apply Kd.R_drew)); exact Kd.R_mono (Kd.R_far (p := ⟨gb203, 1, none⟩) (Kd.R_types HO_4.out BK203.out (by decide)) (fun _ hk => hk.2) (.int .i64 t205)) (fun _ hk => trivial)⟩, ⟨by (with_reducible repeat (first | refine blk_drewN ?_ _ | refine blk_drew ?_ | refine blk_alloc ?_ _)); refine blk_far ?_ NB195_203.out _; (with_reducible repeat (first | refine blk_drewN ?_ _ | refine blk_drew ?_ | refine blk_alloc ?_ _)); exact BK195.out⟩, ⟨by (with_reducible repeat (first | refine blk_drewN ?_ _ | refine blk_drew ?_ | refine blk_alloc ?_ _)); refine blk_put (cs := #[.int .i64 x6_2, .int .i64 x204001_4, .int .i64 x204002_4, .int .i64 x204003_4]) ?_ 1 _ rfl; (with_reducible repeat (first | refine blk_drewN ?_ _ | refine blk_drew ?_ | refine blk_alloc ?_ _)); exact BK203.out⟩, ⟨by repeat (first | (with_reducible first | exact HB.out | apply below_alloc | apply pw_below_drewN | apply below_drew1 | refine below_set ?_ GE195.out | refine below_set ?_ GE203.out) | exact HB.out)⟩⟩
                                · rw [if_neg c27] at H
                                  have c27b0 : (x10_4 == 0) = false := beq_eq_false_iff_ne.mpr c27
                                  have c27b1 : (x10_4 != 0) = true := bne_iff_ne.mpr c27
                                  by_cases c32 : x10_4 = 1
                                  · rw [if_pos c32] at H
                                    have c32b0 : (x10_4 == 1) = true := beq_iff_eq.mpr c32
                                    have c32b1 : (x10_4 != 1) = false := bne_eq_false_iff_eq.mpr c32
                                    clear c32
                                    have H' := Aside0.mk H
                                    clear H
                                    obtain ⟨Ao33, co33, eo33⟩ := Kd.R_slice HO_4.out
                                    subst eo33
                                    have p204 : 0 ≤ ((ji22) : Int) := of_decide_eq_true (by first | (with_reducible assumption) | assumption)
                                    have q204 : (ji22) < (t196.length : Int) := of_decide_eq_true (by first | (with_reducible assumption) | assumption)
                                    obtain ⟨ad204, e204, hx204_0⟩ := Kd.at_string (Kd.R_reads' HO_4.out).2.2 (ji22) p204 q204
                                    cases e204
                                    replace p204 := eq_true p204
                                    replace q204 := eq_true q204
                                    go_wp2_with (first | ((with_reducible refine gate_callee (f := 78) rfl ?_); refine goesL_ (some 60) rfl rfl Try.func78 (by kernel_rfl) rfl #[.string (rdOf ByteArray.empty t196 (ji22))] rfl (by (try simp only [List.map_toArray, List.map_cons, List.map_nil]); first | done | (simp only [hji22]; rfl) | rfl | (simp only [List.length_drop, List.length_take]; rfl)) ?_; (with_reducible refine (spec_ReadDecimal.calls k4 (rdOf ByteArray.empty t196 (ji22)) t205 true _ A25.out).mono ?_); rintro e w34 ⟨rfl, hb⟩; refine ⟨_, rfl, ?_⟩; have n0_ := Aside0.mk (Kd.R_below (by (with_reducible repeat (first | apply Kd.R_alloc | apply Kd.R_drewN | apply Kd.R_drew)); exact HO_4.out) hb); have n1_ := Aside0.mk (blk_below (g := gb195) (o := .cells #[.int .i64 x196000_4, .int .i64 x196001_4, .int .i64 x196002_4, .int .i64 x196003_4] 29 (0, 0)) (by (with_reducible repeat (first | refine blk_drewN ?_ _ | refine blk_drew ?_ | refine blk_alloc ?_ _)); exact BK195.out) hb); have n2_ := Aside0.mk (blk_below (g := gb203) (o := .cells #[.int .i64 x6_2, .int .i64 x204001_4, .int .i64 x204002_4, .int .i64 x204003_4] 29 (0, 0)) (by (with_reducible repeat (first | refine blk_drewN ?_ _ | refine blk_drew ?_ | refine blk_alloc ?_ _)); exact BK203.out) hb); have n3_ := Aside0.mk (below_step (by repeat (first | (with_reducible first | exact HB.out | apply below_alloc | apply pw_below_drewN | apply below_drew1 | refine below_set ?_ GE195.out | refine below_set ?_ GE203.out) | exact HB.out)) hb); clear HO_4; clear BK195; clear BK203; clear HB; have HO_4 := n0_; have BK195 := n1_; have BK203 := n2_; have HB := n3_; clear n0_ n1_ n2_ n3_; (try clear hb); (try clear hb2); (try clear hk); (try clear hi); have hnb35 := NB203_195.out; have hnc35 := NB195_203.out; have hcz36_0 : w34.cell? ⟨gb203, 0, none⟩ = some (.int .i64 x6_2) := (blk_cell BK203.out 0).trans rfl; have hcz36_1 : w34.cell? ⟨gb203, 1, none⟩ = some (.int .i64 x204001_4) := (blk_cell BK203.out 1).trans rfl; have hcz36_2 : w34.cell? ⟨gb203, 2, none⟩ = some (.int .i64 x204002_4) := (blk_cell BK203.out 2).trans rfl; have hcz36_3 : w34.cell? ⟨gb203, 3, none⟩ = some (.int .i64 x204003_4) := (blk_cell BK203.out 3).trans rfl; have hfz36_0 := blk_frozen BK203.out 0; have hfz36_1 := blk_frozen BK203.out 1; have hfz36_2 := blk_frozen BK203.out 2; have hfz36_3 := blk_frozen BK203.out 3))
                                    go_roundg k4
                                    case measure => have := HJ2.out; have := HK2.out; have := HJ11.out; have := HK4.out; omega
                                    case rel => exact ⟨(ji22), (x196000_4), (x196001_4), (x196002_4), (x196003_4), (x204001_4), (t205), (x204003_4), (by first | rfl | (simp; done) | (simp only [← hji22] <;> (first | rfl | simp)) | (simp [*]; done)), H', ⟨by have := HJ2.out; have := HK2.out; have := HJ11.out; have := HK4.out; omega⟩, ⟨by (with_reducible repeat (first | apply Kd.R_alloc | apply Kd.R_drewN | apply Kd.R_drew)); exact Kd.R_mono (Kd.R_far (p := ⟨gb203, 2, none⟩) (Kd.R_types HO_4.out BK203.out (by decide)) (fun _ hk => hk.2) (.int .i64 t205)) (fun _ hk => trivial)⟩, ⟨by (with_reducible repeat (first | refine blk_drewN ?_ _ | refine blk_drew ?_ | refine blk_alloc ?_ _)); refine blk_far ?_ NB195_203.out _; (with_reducible repeat (first | refine blk_drewN ?_ _ | refine blk_drew ?_ | refine blk_alloc ?_ _)); exact BK195.out⟩, ⟨by (with_reducible repeat (first | refine blk_drewN ?_ _ | refine blk_drew ?_ | refine blk_alloc ?_ _)); refine blk_put (cs := #[.int .i64 x6_2, .int .i64 x204001_4, .int .i64 x204002_4, .int .i64 x204003_4]) ?_ 2 _ rfl; (with_reducible repeat (first | refine blk_drewN ?_ _ | refine blk_drew ?_ | refine blk_alloc ?_ _)); exact BK203.out⟩, ⟨by repeat (first | (with_reducible first | exact HB.out | apply below_alloc | apply pw_below_drewN | apply below_drew1 | refine below_set ?_ GE195.out | refine below_set ?_ GE203.out) | exact HB.out)⟩⟩
                                  · rw [if_neg c32] at H
                                    have c32b0 : (x10_4 == 1) = false := beq_eq_false_iff_ne.mpr c32
                                    have c32b1 : (x10_4 != 1) = true := bne_iff_ne.mpr c32
                                    have H' := Aside0.mk H
                                    clear H
                                    obtain ⟨Ao37, co37, eo37⟩ := Kd.R_slice HO_4.out
                                    subst eo37
                                    have p204 : 0 ≤ ((ji22) : Int) := of_decide_eq_true (by first | (with_reducible assumption) | assumption)
                                    have q204 : (ji22) < (t196.length : Int) := of_decide_eq_true (by first | (with_reducible assumption) | assumption)
                                    obtain ⟨ad204, e204, hx204_0⟩ := Kd.at_string (Kd.R_reads' HO_4.out).2.2 (ji22) p204 q204
                                    cases e204
                                    replace p204 := eq_true p204
                                    replace q204 := eq_true q204
                                    go_wp2_with (first | ((with_reducible refine gate_callee (f := 78) rfl ?_); refine goesL_ (some 60) rfl rfl Try.func78 (by kernel_rfl) rfl #[.string (rdOf ByteArray.empty t196 (ji22))] rfl (by (try simp only [List.map_toArray, List.map_cons, List.map_nil]); first | done | (simp only [hji22]; rfl) | rfl | (simp only [List.length_drop, List.length_take]; rfl)) ?_; (with_reducible refine (spec_ReadDecimal.calls k4 (rdOf ByteArray.empty t196 (ji22)) t205 true _ A25.out).mono ?_); rintro e w38 ⟨rfl, hb⟩; refine ⟨_, rfl, ?_⟩; have n0_ := Aside0.mk (Kd.R_below (by (with_reducible repeat (first | apply Kd.R_alloc | apply Kd.R_drewN | apply Kd.R_drew)); exact HO_4.out) hb); have n1_ := Aside0.mk (blk_below (g := gb195) (o := .cells #[.int .i64 x196000_4, .int .i64 x196001_4, .int .i64 x196002_4, .int .i64 x196003_4] 29 (0, 0)) (by (with_reducible repeat (first | refine blk_drewN ?_ _ | refine blk_drew ?_ | refine blk_alloc ?_ _)); exact BK195.out) hb); have n2_ := Aside0.mk (blk_below (g := gb203) (o := .cells #[.int .i64 x6_2, .int .i64 x204001_4, .int .i64 x204002_4, .int .i64 x204003_4] 29 (0, 0)) (by (with_reducible repeat (first | refine blk_drewN ?_ _ | refine blk_drew ?_ | refine blk_alloc ?_ _)); exact BK203.out) hb); have n3_ := Aside0.mk (below_step (by repeat (first | (with_reducible first | exact HB.out | apply below_alloc | apply pw_below_drewN | apply below_drew1 | refine below_set ?_ GE195.out | refine below_set ?_ GE203.out) | exact HB.out)) hb); clear HO_4; clear BK195; clear BK203; clear HB; have HO_4 := n0_; have BK195 := n1_; have BK203 := n2_; have HB := n3_; clear n0_ n1_ n2_ n3_; (try clear hb); (try clear hb2); (try clear hk); (try clear hi); have hnb39 := NB203_195.out; have hnc39 := NB195_203.out; have hcz40_0 : w38.cell? ⟨gb203, 0, none⟩ = some (.int .i64 x6_2) := (blk_cell BK203.out 0).trans rfl; have hcz40_1 : w38.cell? ⟨gb203, 1, none⟩ = some (.int .i64 x204001_4) := (blk_cell BK203.out 1).trans rfl; have hcz40_2 : w38.cell? ⟨gb203, 2, none⟩ = some (.int .i64 x204002_4) := (blk_cell BK203.out 2).trans rfl; have hcz40_3 : w38.cell? ⟨gb203, 3, none⟩ = some (.int .i64 x204003_4) := (blk_cell BK203.out 3).trans rfl; have hfz40_0 := blk_frozen BK203.out 0; have hfz40_1 := blk_frozen BK203.out 1; have hfz40_2 := blk_frozen BK203.out 2; have hfz40_3 := blk_frozen BK203.out 3))
                                    go_roundg k4
                                    case measure => have := HJ2.out; have := HK2.out; have := HJ11.out; have := HK4.out; omega
                                    case rel => exact ⟨(ji22), (x196000_4), (x196001_4), (x196002_4), (x196003_4), (x204001_4), (x204002_4), (t205), (by first | rfl | (simp; done) | (simp only [← hji22] <;> (first | rfl | simp)) | (simp [*]; done)), H', ⟨by have := HJ2.out; have := HK2.out; have := HJ11.out; have := HK4.out; omega⟩, ⟨by (with_reducible repeat (first | apply Kd.R_alloc | apply Kd.R_drewN | apply Kd.R_drew)); exact Kd.R_mono (Kd.R_far (p := ⟨gb203, 3, none⟩) (Kd.R_types HO_4.out BK203.out (by decide)) (fun _ hk => hk.2) (.int .i64 t205)) (fun _ hk => trivial)⟩, ⟨by (with_reducible repeat (first | refine blk_drewN ?_ _ | refine blk_drew ?_ | refine blk_alloc ?_ _)); refine blk_far ?_ NB195_203.out _; (with_reducible repeat (first | refine blk_drewN ?_ _ | refine blk_drew ?_ | refine blk_alloc ?_ _)); exact BK195.out⟩, ⟨by (with_reducible repeat (first | refine blk_drewN ?_ _ | refine blk_drew ?_ | refine blk_alloc ?_ _)); refine blk_put (cs := #[.int .i64 x6_2, .int .i64 x204001_4, .int .i64 x204002_4, .int .i64 x204003_4]) ?_ 3 _ rfl; (with_reducible repeat (first | refine blk_drewN ?_ _ | refine blk_drew ?_ | refine blk_alloc ?_ _)); exact BK203.out⟩, ⟨by repeat (first | (with_reducible first | exact HB.out | apply below_alloc | apply pw_below_drewN | apply below_drew1 | refine below_set ?_ GE195.out | refine below_set ?_ GE203.out) | exact HB.out)⟩⟩
                              · replace c26 := Bool.eq_false_iff.mpr c26
                                subst c26
                                have H1 : (some (0, 0, 0, 0, false)) = some (r1, r2, r3, r4, r5) := by rw [if_neg (show ¬ (false = true) by decide)] at H; exact H
                                clear H
                                have H := H1
                                clear H1
                                simp only [Option.some.injEq, Prod.mk.injEq] at H
                                obtain ⟨rfl, rfl, rfl, rfl, rfl⟩ := H
                                obtain ⟨Ao41, co41, eo41⟩ := Kd.R_slice HO_4.out
                                subst eo41
                                have p204 : 0 ≤ ((ji22) : Int) := of_decide_eq_true (by first | (with_reducible assumption) | assumption)
                                have q204 : (ji22) < (t196.length : Int) := of_decide_eq_true (by first | (with_reducible assumption) | assumption)
                                obtain ⟨ad204, e204, hx204_0⟩ := Kd.at_string (Kd.R_reads' HO_4.out).2.2 (ji22) p204 q204
                                cases e204
                                replace p204 := eq_true p204
                                replace q204 := eq_true q204
                                go_wp2_with (first | ((with_reducible refine gate_callee (f := 78) rfl ?_); refine goesL_ (some 60) rfl rfl Try.func78 (by kernel_rfl) rfl #[.string (rdOf ByteArray.empty t196 (ji22))] rfl (by (try simp only [List.map_toArray, List.map_cons, List.map_nil]); first | done | (simp only [hji22]; rfl) | rfl | (simp only [List.length_drop, List.length_take]; rfl)) ?_; (with_reducible refine (spec_ReadDecimal.calls k4 (rdOf ByteArray.empty t196 (ji22)) t205 false _ A25.out).mono ?_); rintro e w42 ⟨rfl, hb⟩; refine ⟨_, rfl, ?_⟩; have n0_ := Aside0.mk (Kd.R_below (by (with_reducible repeat (first | apply Kd.R_alloc | apply Kd.R_drewN | apply Kd.R_drew)); exact HO_4.out) hb); have n1_ := Aside0.mk (blk_below (g := gb195) (o := .cells #[.int .i64 x196000_4, .int .i64 x196001_4, .int .i64 x196002_4, .int .i64 x196003_4] 29 (0, 0)) (by (with_reducible repeat (first | refine blk_drewN ?_ _ | refine blk_drew ?_ | refine blk_alloc ?_ _)); exact BK195.out) hb); have n2_ := Aside0.mk (blk_below (g := gb203) (o := .cells #[.int .i64 x6_2, .int .i64 x204001_4, .int .i64 x204002_4, .int .i64 x204003_4] 29 (0, 0)) (by (with_reducible repeat (first | refine blk_drewN ?_ _ | refine blk_drew ?_ | refine blk_alloc ?_ _)); exact BK203.out) hb); have n3_ := Aside0.mk (below_step (by repeat (first | (with_reducible first | exact HB.out | apply below_alloc | apply pw_below_drewN | apply below_drew1 | refine below_set ?_ GE195.out | refine below_set ?_ GE203.out) | exact HB.out)) hb); clear HO_4; clear BK195; clear BK203; clear HB; have HO_4 := n0_; have BK195 := n1_; have BK203 := n2_; have HB := n3_; clear n0_ n1_ n2_ n3_; (try clear hb); (try clear hb2); (try clear hk); (try clear hi); have hnb43 := NB195_203.out; have hnc43 := NB203_195.out; have hcz44_0 : w42.cell? ⟨gb195, 0, none⟩ = some (.int .i64 x196000_4) := (blk_cell BK195.out 0).trans rfl; have hcz44_1 : w42.cell? ⟨gb195, 1, none⟩ = some (.int .i64 x196001_4) := (blk_cell BK195.out 1).trans rfl; have hcz44_2 : w42.cell? ⟨gb195, 2, none⟩ = some (.int .i64 x196002_4) := (blk_cell BK195.out 2).trans rfl; have hcz44_3 : w42.cell? ⟨gb195, 3, none⟩ = some (.int .i64 x196003_4) := (blk_cell BK195.out 3).trans rfl; have hfz44_0 := blk_frozen BK195.out 0; have hfz44_1 := blk_frozen BK195.out 1; have hfz44_2 := blk_frozen BK195.out 2; have hfz44_3 := blk_frozen BK195.out 3))
                                refine bodyPost_ret (results_ct rfl _ _ gb195 29 #[.int .i64 0, .int .i64 0, .int .i64 0, .int .i64 0] (0, 0) _ rfl (by (with_reducible repeat (first | refine blk_drewN ?_ _ | refine blk_drew ?_ | refine blk_alloc ?_ _)); refine blk_put (cs := #[.int .i64 0, .int .i64 0, .int .i64 0, .int .i64 x196003_4]) ?_ 3 _ rfl; (with_reducible repeat (first | refine blk_drewN ?_ _ | refine blk_drew ?_ | refine blk_alloc ?_ _)); refine blk_put (cs := #[.int .i64 0, .int .i64 0, .int .i64 x196002_4, .int .i64 x196003_4]) ?_ 2 _ rfl; (with_reducible repeat (first | refine blk_drewN ?_ _ | refine blk_drew ?_ | refine blk_alloc ?_ _)); refine blk_put (cs := #[.int .i64 0, .int .i64 x196001_4, .int .i64 x196002_4, .int .i64 x196003_4]) ?_ 1 _ rfl; (with_reducible repeat (first | refine blk_drewN ?_ _ | refine blk_drew ?_ | refine blk_alloc ?_ _)); refine blk_put (cs := #[.int .i64 x196000_4, .int .i64 x196001_4, .int .i64 x196002_4, .int .i64 x196003_4]) ?_ 0 _ rfl; (with_reducible repeat (first | refine blk_drewN ?_ _ | refine blk_drew ?_ | refine blk_alloc ?_ _)); exact BK195.out) Try.underlying29 rfl (by kernel_rfl)) rfl ?_
                                exact ⟨by first | rfl | (simp [errW_none, errW_some] <;> rfl) | (simp only [← hji22]; first | rfl | (simp [errW_none, errW_some] <;> rfl)) | (simp [*, errW_none, errW_some] <;> rfl), by repeat (first | (with_reducible first | exact HB.out | apply below_alloc | apply pw_below_drewN | apply below_drew1 | refine below_set ?_ GE195.out | refine below_set ?_ GE203.out) | exact HB.out)⟩
                            · rw [if_neg c24] at H
                              exact absurd H (by simp)
                          · rw [if_neg c23] at H
                            exact absurd H (by simp)
                        · rw [if_neg c21] at H
                          have c21b0 : decide (x10_4 < t201) = false := decide_eq_false c21
                          clear c21
                          simp only [Option.some.injEq, Prod.mk.injEq] at H
                          obtain ⟨rfl, rfl, rfl, rfl, rfl⟩ := H
                          have hnb45 := NB203_195.out
                          have hnc45 := NB195_203.out
                          have hcz46_0 : wr.cell? ⟨gb203, 0, none⟩ = some (.int .i64 x6_2) := (blk_cell BK203.out 0).trans rfl
                          have hcz46_1 : wr.cell? ⟨gb203, 1, none⟩ = some (.int .i64 x204001_4) := (blk_cell BK203.out 1).trans rfl
                          have hcz46_2 : wr.cell? ⟨gb203, 2, none⟩ = some (.int .i64 x204002_4) := (blk_cell BK203.out 2).trans rfl
                          have hcz46_3 : wr.cell? ⟨gb203, 3, none⟩ = some (.int .i64 x204003_4) := (blk_cell BK203.out 3).trans rfl
                          have hfz46_0 := blk_frozen BK203.out 0
                          have hfz46_1 := blk_frozen BK203.out 1
                          have hfz46_2 := blk_frozen BK203.out 2
                          have hfz46_3 := blk_frozen BK203.out 3
                          have hcz47_0 : wr.cell? ⟨gb195, 0, none⟩ = some (.int .i64 x196000_4) := (blk_cell BK195.out 0).trans rfl
                          have hcz47_1 : wr.cell? ⟨gb195, 1, none⟩ = some (.int .i64 x196001_4) := (blk_cell BK195.out 1).trans rfl
                          have hcz47_2 : wr.cell? ⟨gb195, 2, none⟩ = some (.int .i64 x196002_4) := (blk_cell BK195.out 2).trans rfl
                          have hcz47_3 : wr.cell? ⟨gb195, 3, none⟩ = some (.int .i64 x196003_4) := (blk_cell BK195.out 3).trans rfl
                          have hfz47_0 := blk_frozen BK195.out 0
                          have hfz47_1 := blk_frozen BK195.out 1
                          have hfz47_2 := blk_frozen BK195.out 2
                          have hfz47_3 := blk_frozen BK195.out 3
                          go_wp2
                          refine bodyPost_ret (results_ct rfl _ _ gb195 29 #[.int .i64 x6_2, .int .i64 x204001_4, .int .i64 x204002_4, .int .i64 x204003_4] (0, 0) _ rfl (by (with_reducible repeat (first | refine blk_drewN ?_ _ | refine blk_drew ?_ | refine blk_alloc ?_ _)); refine blk_put (cs := #[.int .i64 x6_2, .int .i64 x204001_4, .int .i64 x204002_4, .int .i64 x196003_4]) ?_ 3 _ rfl; (with_reducible repeat (first | refine blk_drewN ?_ _ | refine blk_drew ?_ | refine blk_alloc ?_ _)); refine blk_put (cs := #[.int .i64 x6_2, .int .i64 x204001_4, .int .i64 x196002_4, .int .i64 x196003_4]) ?_ 2 _ rfl; (with_reducible repeat (first | refine blk_drewN ?_ _ | refine blk_drew ?_ | refine blk_alloc ?_ _)); refine blk_put (cs := #[.int .i64 x6_2, .int .i64 x196001_4, .int .i64 x196002_4, .int .i64 x196003_4]) ?_ 1 _ rfl; (with_reducible repeat (first | refine blk_drewN ?_ _ | refine blk_drew ?_ | refine blk_alloc ?_ _)); refine blk_put (cs := #[.int .i64 x196000_4, .int .i64 x196001_4, .int .i64 x196002_4, .int .i64 x196003_4]) ?_ 0 _ rfl; (with_reducible repeat (first | refine blk_drewN ?_ _ | refine blk_drew ?_ | refine blk_alloc ?_ _)); exact BK195.out) Try.underlying29 rfl (by kernel_rfl)) rfl ?_
                          exact ⟨by first | rfl | (simp [errW_none, errW_some] <;> rfl) | (simp [*, errW_none, errW_some] <;> rfl), by repeat (first | (with_reducible first | exact HB.out | apply below_alloc | apply pw_below_drewN | apply below_drew1 | refine below_set ?_ GE195.out | refine below_set ?_ GE203.out) | exact HB.out)⟩
            · rw [if_neg c10] at H
              have c10b0 : decide (x6_2 ≤ 9) = false := decide_eq_false c10
              clear c10
              simp only [Option.some.injEq, Prod.mk.injEq] at H
              obtain ⟨rfl, rfl, rfl, rfl, rfl⟩ := H
              have hcz48_0 : wr.cell? ⟨gb195, 0, none⟩ = some (.int .i64 x196000_2) := (blk_cell BK195.out 0).trans rfl
              have hcz48_1 : wr.cell? ⟨gb195, 1, none⟩ = some (.int .i64 x196001_2) := (blk_cell BK195.out 1).trans rfl
              have hcz48_2 : wr.cell? ⟨gb195, 2, none⟩ = some (.int .i64 x196002_2) := (blk_cell BK195.out 2).trans rfl
              have hcz48_3 : wr.cell? ⟨gb195, 3, none⟩ = some (.int .i64 x196003_2) := (blk_cell BK195.out 3).trans rfl
              have hfz48_0 := blk_frozen BK195.out 0
              have hfz48_1 := blk_frozen BK195.out 1
              have hfz48_2 := blk_frozen BK195.out 2
              have hfz48_3 := blk_frozen BK195.out 3
              go_wp2
              refine bodyPost_ret (results_ct rfl _ _ gb195 29 #[.int .i64 0, .int .i64 0, .int .i64 0, .int .i64 0] (0, 0) _ rfl (by (with_reducible repeat (first | refine blk_drewN ?_ _ | refine blk_drew ?_ | refine blk_alloc ?_ _)); refine blk_put (cs := #[.int .i64 0, .int .i64 0, .int .i64 0, .int .i64 x196003_2]) ?_ 3 _ rfl; (with_reducible repeat (first | refine blk_drewN ?_ _ | refine blk_drew ?_ | refine blk_alloc ?_ _)); refine blk_put (cs := #[.int .i64 0, .int .i64 0, .int .i64 x196002_2, .int .i64 x196003_2]) ?_ 2 _ rfl; (with_reducible repeat (first | refine blk_drewN ?_ _ | refine blk_drew ?_ | refine blk_alloc ?_ _)); refine blk_put (cs := #[.int .i64 0, .int .i64 x196001_2, .int .i64 x196002_2, .int .i64 x196003_2]) ?_ 1 _ rfl; (with_reducible repeat (first | refine blk_drewN ?_ _ | refine blk_drew ?_ | refine blk_alloc ?_ _)); refine blk_put (cs := #[.int .i64 x196000_2, .int .i64 x196001_2, .int .i64 x196002_2, .int .i64 x196003_2]) ?_ 0 _ rfl; (with_reducible repeat (first | refine blk_drewN ?_ _ | refine blk_drew ?_ | refine blk_alloc ?_ _)); exact BK195.out) Try.underlying29 rfl (by kernel_rfl)) rfl ?_
              exact ⟨by first | rfl | (simp [errW_none, errW_some] <;> rfl) | (simp [*, errW_none, errW_some] <;> rfl), by repeat (first | (with_reducible first | exact HB.out | apply below_alloc | apply pw_below_drewN | apply below_drew1 | refine below_set ?_ GE195.out) | exact HB.out)⟩

end Go.Proofs.Ytjmhhgnknjfnlaa.PFnExactReadScript
