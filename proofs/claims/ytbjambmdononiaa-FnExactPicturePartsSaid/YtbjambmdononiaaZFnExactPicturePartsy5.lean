-- functions and their walks: written by a program of this claim's
import Derived.Test.YtbjambmdononiaaProg
import Derived.Test.YtbjambmdononiaaVFnExactPictureParts
import Derived.Test.YtbjambmdononiaaZFnExactPicturePartsy0
import Derived.Test.YtbjambmdononiaaZFnExactPicturePartsy4
namespace Go.Proofs.Ytbjambmdononiaa.PFnExactPictureParts
open Go.RowKit Go.Proofs.YtbjambmdononiaaW.PrintWords Go.Proofs.YtbjambmdononiaaW.PrintLast Go.Proofs.YtbjambmdononiaaW.PrintMore
attribute [local go_sem] max2_int min2_int max_two min_two max_three min_three max_four min_four
set_option linter.unusedVariables false
set_option linter.unusedSimpArgs false
theorem Bf_0 {P : Prop} (h : P := by exact ⟨(blk_cell BK306.out 0).trans rfl, (blk_cell BK306.out 1).trans rfl, (blk_cell BK306.out 2).trans rfl, (blk_cell BK306.out 3).trans rfl, (blk_cell BK307.out 0).trans rfl, (blk_cell BK307.out 1).trans rfl, (blk_cell BK307.out 2).trans rfl, (blk_cell BK307.out 3).trans rfl, (blk_cell BK308.out 0).trans rfl, (blk_cell BK308.out 1).trans rfl, (blk_cell BK308.out 2).trans rfl⟩) : P := h
theorem Bf_1 {P : Prop} (h : P := by repeat (first | (with_reducible first | exact HK.out | apply KeepBut.set_ | apply keep_drewN | apply keep_drew | apply keep_alloc) | exact HK.out)) : P := h
theorem Bf_2 {P : Prop} (h : P := by repeat (first | (with_reducible first | exact HI0.out | apply IsS333.alloc | apply IsS333.drewN | apply IsS333.drew | apply IsS333.set_0 | apply IsS333.set_1 | apply IsS333.set_2) | exact HI0.out)) : P := h
theorem Bf_3 {P : Prop} (h : P := by repeat (first | (with_reducible first | exact HB.out | apply below_alloc | apply pw_below_drewN | apply below_drew1 | refine below_set ?_ (IsS333.ge HI0.out)) | exact HB.out)) : P := h
theorem Bf_4 {P : Prop} (h : P := by (try simp only [List.map_toArray, List.map_cons, List.map_nil]); first | done | rfl | (simp only [List.length_drop, List.length_take]; rfl)) : P := h
theorem Bf_5 {P : Prop} (h : P := by first | rfl | (simp [errW_none, errW_some] <;> rfl) | (simp [*, errW_none, errW_some] <;> rfl)) : P := h
theorem Bf_6 {P : Prop} (h : P := by repeat (first | (with_reducible first | exact HBW.out | apply below_alloc | apply pw_below_drewN | apply below_drew1) | exact HBW.out)) : P := h
theorem Bf_7 {P : Prop} (h : P := by first | rfl | (simp; done) | (simp [*]; done)) : P := h
theorem Bf_8 {P : Prop} (h : P := by exact ⟨(blk_cell BK306.out 0).trans rfl, (blk_cell BK306.out 1).trans rfl, (blk_cell BK306.out 2).trans rfl, (blk_cell BK306.out 3).trans rfl, (blk_cell BK307.out 0).trans rfl, (blk_cell BK307.out 1).trans rfl, (blk_cell BK307.out 2).trans rfl, (blk_cell BK307.out 3).trans rfl⟩) : P := h
theorem Bf_9 {P : Prop} (h : P := by first | (with_reducible assumption) | assumption) : P := h
theorem Bf_10 {P : Prop} (h : P := by first | rfl | (simp [errW_none, errW_some] <;> rfl) | (simp only [← hji12]; first | rfl | (simp [errW_none, errW_some] <;> rfl)) | (simp [*, errW_none, errW_some] <;> rfl)) : P := h
theorem Bf_11 {P : Prop} (h : P := by (try simp only [List.map_toArray, List.map_cons, List.map_nil]); first | done | (simp only [hji12]; rfl) | rfl | (simp only [List.length_drop, List.length_take]; rfl)) : P := h
theorem Bf_12 {P : Prop} (h : P := by repeat (first | exact Drawn0.refl _ | apply Drawn0.step)) : P := h
theorem Bf_13 {P : Prop} (h : P := by have := HK1.out; first | omega | exact Nat.le_refl _) : P := h
/-- A state of type 333 at block g of W; what its slices lead to came in by w0. -/
def IsS333 (w0 W : World) (g : Nat) (f0 : ByteArray) (f1 : Int) (f2 : Bool) : Prop := W.heap[g]? = some (.cells #[.string f0, .int .i64 f1, .bool f2] 333 (0, 0)) ∧ w0.heap.size ≤ g
theorem IsS333.grown {w0 W : World} {g : Nat} {f0 : ByteArray} {f1 : Int} {f2 : Bool} {W1 : World} {row : Option Nat} (h : IsS333 w0 W g f0 f1 f2) (hw : W.grownBy W1 row) (hne : some g ≠ row) : IsS333 w0 W1 g f0 f1 f2 := by
 obtain ⟨hb, hg⟩ := h; exact ⟨blk_grown hb hw hne, hg⟩
theorem IsS333.own_neN {w0 W : World} {g : Nat} {f0 : ByteArray} {f1 : Int} {f2 : Bool} {α : Type} {d : Kd α} {e : Nat} {base : Nat} {ok : Nat → Prop} {v : Value} {xs : List α} (h : IsS333 w0 W g f0 f1 f2) (ho : Kd.N d e W base ok v xs) (ht : e ≠ 333) : some g ≠ v.ownBlock := by
 obtain ⟨hb, hg⟩ := h; exact Kd.N_ne ho hb ht
theorem IsS333.fresh {w0 W : World} {g : Nat} {f0 : ByteArray} {f1 : Int} {f2 : Bool} (h : IsS333 w0 W g f0 f1 f2) : ∀ k, W.heap.size ≤ k → k ≠ g := by
 obtain ⟨hb, hg⟩ := h; exact Kd.freshB hb
theorem IsS333.kept {w0 W : World} {g : Nat} {f0 : ByteArray} {f1 : Int} {f2 : Bool} {W1 : World} {S : Nat → Prop} (h : IsS333 w0 W g f0 f1 f2) (hk : Kept W W1 S) (hne : ¬ S g) : IsS333 w0 W1 g f0 f1 f2 := by
 obtain ⟨hb, hg⟩ := h; exact ⟨blk_kept hb hk hne, hg⟩
theorem IsS333.below {w0 W : World} {g : Nat} {f0 : ByteArray} {f1 : Int} {f2 : Bool} {W1 : World} (h : IsS333 w0 W g f0 f1 f2) (hw : Below W.heap.size W W1) : IsS333 w0 W1 g f0 f1 f2 := h.grown (grown_of_below hw none) (by simp)
theorem IsS333.alloc {w0 W : World} {g : Nat} {f0 : ByteArray} {f1 : Int} {f2 : Bool} (h : IsS333 w0 W g f0 f1 f2) (o : Obj) : IsS333 w0 (W.alloc o) g f0 f1 f2 := h.below (below_alloc (Below.refl _ _) o)
theorem IsS333.drewN {w0 W : World} {g : Nat} {f0 : ByteArray} {f1 : Int} {f2 : Bool} (h : IsS333 w0 W g f0 f1 f2) (m : Nat) : IsS333 w0 (W.drewN m) g f0 f1 f2 := h
theorem IsS333.drew {w0 W : World} {g : Nat} {f0 : ByteArray} {f1 : Int} {f2 : Bool} (h : IsS333 w0 W g f0 f1 f2) : IsS333 w0 W.drew g f0 f1 f2 := h
theorem IsS333.at_ {w0 W : World} {g : Nat} {f0 : ByteArray} {f1 : Int} {f2 : Bool} {w' : World} {m : Nat} (hq : W.drewN m = w') (h : IsS333 w0 W g f0 f1 f2) : IsS333 w0 w' g f0 f1 f2 := by subst hq; exact IsS333.drewN h m
theorem IsS333.apart {w0 W : World} {g : Nat} {f0 : ByteArray} {f1 : Int} {f2 : Bool} {α : Type} {d : Kd α} {e : Nat} {base : Nat} {ok : Nat → Prop} {v : Value} {xs : List α} (h : IsS333 w0 W g f0 f1 f2) (ho : d.R e W base ok v xs) (ht : ∀ q, q ∈ e :: d.E → q ≠ 333) : d.R e W base (fun k => ok k ∧ k ≠ g) v xs := by
 obtain ⟨hb, hg⟩ := h; exact Kd.R_types ho hb ht
theorem IsS333.own_ne {w0 W : World} {g : Nat} {f0 : ByteArray} {f1 : Int} {f2 : Bool} {α : Type} {d : Kd α} {e : Nat} {base : Nat} {ok : Nat → Prop} {v : Value} {xs : List α} (h : IsS333 w0 W g f0 f1 f2) (ho : d.R e W base ok v xs) (ht : e ≠ 333) : some g ≠ v.ownBlock := by
 obtain ⟨hb, hg⟩ := h; exact Kd.R_ne ho hb ht
theorem IsS333.apartQ {w0 W : World} {g : Nat} {f0 : ByteArray} {f1 : Int} {f2 : Bool} {α : Type} {d : Kd α} {e : Nat} {base : Nat} {ok : Nat → Prop} {v : Value} {xs : List α} (h : IsS333 w0 W g f0 f1 f2) (ho : d.Q e W base ok v xs) (ht : ∀ q, q ∈ e :: d.E → q ≠ 333) : d.Q e W base (fun k => ok k ∧ k ≠ g) v xs := by
 obtain ⟨hb, hg⟩ := h; exact Kd.Q_types ho hb ht
theorem IsS333.own_neQ {w0 W : World} {g : Nat} {f0 : ByteArray} {f1 : Int} {f2 : Bool} {α : Type} {d : Kd α} {e : Nat} {base : Nat} {ok : Nat → Prop} {v : Value} {xs : List α} (h : IsS333 w0 W g f0 f1 f2) (ho : d.Q e W base ok v xs) (ht : e ≠ 333) : some g ≠ v.ownBlock := by
 obtain ⟨hb, hg⟩ := h; exact Kd.Q_ne ho hb ht
theorem IsS333.apartS {w0 W : World} {g : Nat} {f0 : ByteArray} {f1 : Int} {f2 : Bool} {α : Type} {d : Kd α} {e : Nat} {base : Nat} {ok : Nat → Prop} {v : Value} {xs : List α} (h : IsS333 w0 W g f0 f1 f2) (ho : d.S e W base ok v xs) (ht : ∀ q, q ∈ e :: d.E → q ≠ 333) : d.S e W base (fun k => ok k ∧ k ≠ g) v xs := by
 obtain ⟨hb, hg⟩ := h; exact Kd.S_types ho hb ht
theorem IsS333.own_neS {w0 W : World} {g : Nat} {f0 : ByteArray} {f1 : Int} {f2 : Bool} {α : Type} {d : Kd α} {e : Nat} {base : Nat} {ok : Nat → Prop} {v : Value} {xs : List α} (h : IsS333 w0 W g f0 f1 f2) (ho : d.S e W base ok v xs) (ht : e ≠ 333) : some g ≠ v.ownBlock := by
 obtain ⟨hb, hg⟩ := h; exact Kd.S_ne ho hb ht
theorem IsS333.lt {w0 W : World} {g : Nat} {f0 : ByteArray} {f1 : Int} {f2 : Bool} (h : IsS333 w0 W g f0 f1 f2) : g < W.heap.size := by
 obtain ⟨hb, hg⟩ := h; exact blk_lt hb
theorem IsS333.ge {w0 W : World} {g : Nat} {f0 : ByteArray} {f1 : Int} {f2 : Bool} (h : IsS333 w0 W g f0 f1 f2) : w0.heap.size ≤ g := by
 obtain ⟨hb, hg⟩ := h; exact hg
theorem IsS333.ne_blk {w0 W : World} {g : Nat} {f0 : ByteArray} {f1 : Int} {f2 : Bool} {a : Nat} {cs : Array Value} {t : TypeId} {fr : Nat × Nat} (h : IsS333 w0 W g f0 f1 f2) (hb2 : W.heap[a]? = some (.cells cs t fr)) (ht : t ≠ 333) : g ≠ a := by
 obtain ⟨hb, hg⟩ := h; rintro rfl; rw [hb] at hb2; injection hb2 with hb2
 injection hb2 with _ ht2
 exact ht ht2.symm
theorem IsS333.far {w0 W : World} {g : Nat} {f0 : ByteArray} {f1 : Int} {f2 : Bool} {p : Addr} (h : IsS333 w0 W g f0 f1 f2) (hne : g ≠ p.block) (u : Value) : IsS333 w0 (W.setCell p u) g f0 f1 f2 := by
 obtain ⟨hb, hg⟩ := h; exact ⟨blk_far hb hne u, hg⟩
theorem cellS333_0 {W : World} {g : Nat} {f0 : ByteArray} {f1 : Int} {f2 : Bool} (h : W.heap[g]? = some (.cells #[.string f0, .int .i64 f1, .bool f2] 333 (0, 0))) : W.cell? ⟨g, 0, none⟩ = some (.string f0) := (blk_cell h 0).trans rfl
theorem IsS333.set_0 {w0 W : World} {g : Nat} {f0 : ByteArray} {f1 : Int} {f2 : Bool} (h : IsS333 w0 W g f0 f1 f2) (x : ByteArray) : IsS333 w0 (W.setCell ⟨g, 0, none⟩ (.string x)) g x f1 f2 := by
 obtain ⟨hb, hg⟩ := h; exact ⟨(by simpa using blk_set hb 0 (.string x)), hg⟩
theorem cellS333_1 {W : World} {g : Nat} {f0 : ByteArray} {f1 : Int} {f2 : Bool} (h : W.heap[g]? = some (.cells #[.string f0, .int .i64 f1, .bool f2] 333 (0, 0))) : W.cell? ⟨g, 1, none⟩ = some (.int .i64 f1) := (blk_cell h 1).trans rfl
theorem IsS333.set_1 {w0 W : World} {g : Nat} {f0 : ByteArray} {f1 : Int} {f2 : Bool} (h : IsS333 w0 W g f0 f1 f2) (x : Int) : IsS333 w0 (W.setCell ⟨g, 1, none⟩ (.int .i64 x)) g f0 x f2 := by
 obtain ⟨hb, hg⟩ := h; exact ⟨(by simpa using blk_set hb 1 (.int .i64 x)), hg⟩
theorem cellS333_2 {W : World} {g : Nat} {f0 : ByteArray} {f1 : Int} {f2 : Bool} (h : W.heap[g]? = some (.cells #[.string f0, .int .i64 f1, .bool f2] 333 (0, 0))) : W.cell? ⟨g, 2, none⟩ = some (.bool f2) := (blk_cell h 2).trans rfl
theorem IsS333.set_2 {w0 W : World} {g : Nat} {f0 : ByteArray} {f1 : Int} {f2 : Bool} (h : IsS333 w0 W g f0 f1 f2) (x : Bool) : IsS333 w0 (W.setCell ⟨g, 2, none⟩ (.bool x)) g f0 f1 x := by
 obtain ⟨hb, hg⟩ := h; exact ⟨(by simpa using blk_set hb 2 (.bool x)), hg⟩
theorem IsS333.new (w0 W : World) (f0 : ByteArray) (f1 : Int) (f2 : Bool) (hB : Below w0.heap.size w0 W) : IsS333 w0 (W.alloc (.cells #[.string f0, .int .i64 f1, .bool f2] 333)) W.heap.size f0 f1 f2 := ⟨(by simpa using heap_alloc_new W _), hB.size⟩
def impl_opened.f (k : Nat) (a0 : ByteArray) (a1 : Int) : Option (ByteArray × Int × Bool) := (impl_RowOk.f k a0).bind fun t287 => (if t287 = true then ((impl_within.f a1 0 (a0.size : Int)).bind fun t288 => (some (a0, a1, !t288))) else (some (a0, a1, true)))
theorem impl_opened.mono : ∀ a0 a1 k, LeO (impl_opened.f k a0 a1) (impl_opened.f (k + 1) a0 a1) := by
 intro a0 a1 k; unfold impl_opened.f
 repeat' first
   | (with_reducible exact impl_RowOk.mono _ _)
   | (with_reducible exact LeO.refl _)
   | (with_reducible exact LeO.none _)
   | (with_reducible refine LeO.ite ?_ ?_)
   | (with_reducible refine LeO.bind ?_ (fun _ => ?_))
   | exact impl_RowOk.mono _ _
   | exact LeO.none _
   | refine LeO.ite ?_ ?_
   | refine LeO.bind ?_ (fun _ => ?_)
set_option maxHeartbeats 8000000 in
set_option maxRecDepth 100000 in
theorem impl_opened.calls (k : Nat) (a0 : ByteArray) (a1 : Int) (r1 : ByteArray) (r2 : Int) (r3 : Bool) (w0 w : World) (hB : Below w0.heap.size w0 w) (h : impl_opened.f k a0 a1 = some (r1, r2, r3)) :
  Calls Try.prog 234 #[.string a0, .int .i64 a1] w fun e w' => ∃ g_ : Nat, e = .returned (.pointer (some ⟨g_, 0, none⟩)) ∧ IsS333 w0 w' g_ r1 r2 r3 ∧ Below w0.heap.size w0 w' ∧ Below w.heap.size w w' := by
 have hu333 := Try.underlying333; have HBW := Aside0.mk (Below.refl w.heap.size w); have HW0 := Aside0.mk hB.size; have HB := Aside0.mk hB; clear hB; have H : ((impl_RowOk.f k a0).bind fun t287 => (if t287 = true then ((impl_within.f a1 0 (a0.size : Int)).bind fun t288 => (some (a0, a1, !t288))) else (some (a0, a1, true)))) = some (r1, r2, r3) := h; clear h; replace H := Option.bind_eq_some_iff.mp H; obtain ⟨t287, A30, H⟩ := H; try dsimp only at H
 have A3 := Aside0.mk A30; clear A30; by_cases c4 : t287 = true
 ·subst c4
  rw [if_pos rfl] at H; replace H := Option.bind_eq_some_iff.mp H; obtain ⟨t288, A50, H⟩ := H; try dsimp only at H
  have A5 := Aside0.mk A50; clear A50; simp only [Option.some.injEq, Prod.mk.injEq] at H; obtain ⟨rfl, rfl, rfl⟩ := H; go_enter Try.func234, Try.ntmps234; go_wp2_with (first | ((with_reducible refine gate_callee (f := 178) rfl ?_); refine gA_ (some 8) Try.func178 (impl_RowOk.calls _ _ _ _ A3.out) ?_; rintro e w' ⟨rfl, ⟨nd, rfl⟩⟩; refine ⟨_, rfl, ?_⟩) | (go_at_call 112; (with_reducible refine (impl_within.calls a1 0 (a0.size : Int) t288 _ A5.out).mono ?_); rintro e w' ⟨rfl, ⟨nd, rfl⟩⟩) | ((with_reducible refine gate_dst (N := 18) rfl ?_); (try (refine gate_guard (by rfl) ?_; dsimp only)); refine box_event ?hg (N := 18) ?hd (cs := #[.string a0, .int .i64 a1, .bool (!t288)]) (t := 333) ?hr ?_; (case hd => rfl); (case hg => rfl); (case hr => first | (go_simp; done) | (go_simp; rfl)); intro gb289 hg w6 hbox hb; replace HB := Aside0.mk (below_step hb_ hb); have BK289 := Aside0.mk (hbox); have GW289 := gw_ hg Bf_6; have GE289 := Aside0.mk ((Nat.le_trans HW0.out (by rw [hg]; exact (below_size Bf_6) : w.heap.size ≤ gb289) : w0.heap.size ≤ gb289)); replace HBW := Aside0.mk (below_step HBW.out hb); clear hb hbox hg)); go_ret
  first | (exact ⟨_, rfl, (show IsS333 w0 _ gb289 a0 a1 (!t288) from ⟨(by (with_reducible repeat (first | refine blk_drewN ?_ _ | refine blk_drew ?_ | refine blk_alloc ?_ _)); exact BK289.out), GE289.out⟩), hb_, (by repeat (first | (with_reducible first | exact HBW.out | apply below_alloc | apply pw_below_drewN | apply below_drew1 | refine below_set ?_ GW289.out) | exact HBW.out))⟩) | exact ⟨_, rfl, (show IsS333 w0 _ _ a0 a1 (!t288) from ⟨heap_alloc_new _ _, HB.out.size⟩), hb_, Bf_6⟩
 ·replace c4 := Bool.eq_false_iff.mpr c4
  subst c4; rw [if_neg (show ¬ (false = true) by decide)] at H; simp only [Option.some.injEq, Prod.mk.injEq] at H; obtain ⟨rfl, rfl, rfl⟩ := H; go_enter Try.func234, Try.ntmps234; go_wp2_with (first | ((with_reducible refine gate_callee (f := 178) rfl ?_); refine gA_ (some 8) Try.func178 (impl_RowOk.calls _ _ _ _ A3.out) ?_; rintro e w' ⟨rfl, ⟨nd, rfl⟩⟩; refine ⟨_, rfl, ?_⟩) | ((with_reducible refine gate_dst (N := 18) rfl ?_); (try (refine gate_guard (by rfl) ?_; dsimp only)); refine box_event ?hg (N := 18) ?hd (cs := #[.string a0, .int .i64 a1, .bool true]) (t := 333) ?hr ?_; (case hd => rfl); (case hg => rfl); (case hr => first | (go_simp; done) | (go_simp; rfl)); intro gb290 hg w7 hbox hb; replace HB := Aside0.mk (below_step hb_ hb); have BK290 := Aside0.mk (hbox); have GW290 := gw_ hg Bf_6; have GE290 := Aside0.mk ((Nat.le_trans HW0.out (by rw [hg]; exact (below_size Bf_6) : w.heap.size ≤ gb290) : w0.heap.size ≤ gb290)); replace HBW := Aside0.mk (below_step HBW.out hb); clear hb hbox hg)); go_ret
  first | (exact ⟨_, rfl, (show IsS333 w0 _ gb290 a0 a1 true from ⟨(by (with_reducible repeat (first | refine blk_drewN ?_ _ | refine blk_drew ?_ | refine blk_alloc ?_ _)); exact BK290.out), GE290.out⟩), hb_, (by repeat (first | (with_reducible first | exact HBW.out | apply below_alloc | apply pw_below_drewN | apply below_drew1 | refine below_set ?_ GW290.out) | exact HBW.out))⟩) | exact ⟨_, rfl, (show IsS333 w0 _ _ a0 a1 true from ⟨heap_alloc_new _ _, HB.out.size⟩), hb_, Bf_6⟩
end Go.Proofs.Ytbjambmdononiaa.PFnExactPictureParts
namespace Go.Proofs.Ytbjambmdononiaa.PFnExactPictureParts
open Go.RowKit Go.Proofs.YtbjambmdononiaaW.PrintWords Go.Proofs.YtbjambmdononiaaW.PrintLast Go.Proofs.YtbjambmdononiaaW.PrintMore
attribute [local go_sem] max2_int min2_int max_two min_two max_three min_three max_four min_four
set_option linter.unusedVariables false
set_option linter.unusedSimpArgs false
mutual
def impl_scan_fix.j0 : Nat → Int → Bool → ByteArray → Int → Bool → Option (Int × ByteArray × Int × Bool)
 | 0, _, _, _, _, _ => none
 | k + 1, x1, x24, x1000, x1001, x1002 => if x24 = true then (some (0, x1000, x1001, true)) else (impl_scan_fix.l0 k x1 0 0 x1000 x1001 x1002)
def impl_scan_fix.l0 : Nat → Int → Int → Int → ByteArray → Int → Bool → Option (Int × ByteArray × Int × Bool)
 | 0, _, _, _, _, _, _ => none
 | k + 1, x1, x5, x6, x1000, x1001, x1002 => if x6 < x1 then (if 0 ≤ (wrap64 (x1001 + x6)) then (if (wrap64 (x1001 + x6)) < (x1000.size : Int) then (impl_scan_fix.l0 k x1 (Go.bits .or .i64 (wrap64 (x5 * 2)) (((bt x1000 (wrap64 (x1001 + x6))) - 48) % 256)) (wrap64 (x6 + 1)) x1000 x1001 x1002) else (none)) else (none)) else (some (x5, x1000, wrap64 (x1001 + x1), x1002))
end
def impl_scan_fix.f (k : Nat) (s0_0 : ByteArray) (s0_1 : Int) (s0_2 : Bool) (a1 : Int) : Option (Int × ByteArray × Int × Bool) := if s0_2 = true then (impl_scan_fix.j0 k a1 true s0_0 s0_1 s0_2) else (impl_scan_fix.j0 k a1 (decide ((wrap64 ((s0_0.size : Int) - s0_1)) < a1)) s0_0 s0_1 s0_2)
theorem impl_scan_fix.mono_l : ∀ k, (∀ y0 y1 y2 y3 y4, LeO (impl_scan_fix.j0 k y0 y1 y2 y3 y4) (impl_scan_fix.j0 (k + 1) y0 y1 y2 y3 y4)) ∧ (∀ y0 y1 y2 y3 y4 y5, LeO (impl_scan_fix.l0 k y0 y1 y2 y3 y4 y5) (impl_scan_fix.l0 (k + 1) y0 y1 y2 y3 y4 y5))
 | 0 => ⟨fun _ _ _ _ _ r h => by simp [impl_scan_fix.j0] at h, fun _ _ _ _ _ _ r h => by simp [impl_scan_fix.l0] at h⟩
 | k + 1 => by
  obtain ⟨ih0, ih1⟩ := impl_scan_fix.mono_l k; refine ⟨?_, ?_⟩
  ·intro y0 y1 y2 y3 y4
   unfold impl_scan_fix.j0
   repeat' first
   | (with_reducible exact ih0 _ _ _ _ _)
   | (with_reducible exact ih1 _ _ _ _ _ _)
   | (with_reducible exact LeO.refl _)
   | (with_reducible exact LeO.none _)
   | (with_reducible refine LeO.ite ?_ ?_)
   | (with_reducible refine LeO.bind ?_ (fun _ => ?_))
   | exact ih0 _ _ _ _ _
   | exact ih1 _ _ _ _ _ _
   | exact LeO.none _
   | refine LeO.ite ?_ ?_
   | refine LeO.bind ?_ (fun _ => ?_)
  ·intro y0 y1 y2 y3 y4 y5
   unfold impl_scan_fix.l0
   repeat' first
   | (with_reducible exact ih0 _ _ _ _ _)
   | (with_reducible exact ih1 _ _ _ _ _ _)
   | (with_reducible exact LeO.refl _)
   | (with_reducible exact LeO.none _)
   | (with_reducible refine LeO.ite ?_ ?_)
   | (with_reducible refine LeO.bind ?_ (fun _ => ?_))
   | exact ih0 _ _ _ _ _
   | exact ih1 _ _ _ _ _ _
   | exact LeO.none _
   | refine LeO.ite ?_ ?_
   | refine LeO.bind ?_ (fun _ => ?_)
theorem impl_scan_fix.mono : ∀ a0 a1 a2 a3 k, LeO (impl_scan_fix.f k a0 a1 a2 a3) (impl_scan_fix.f (k + 1) a0 a1 a2 a3) := by
 intro a0 a1 a2 a3 k; obtain ⟨ih0, ih1⟩ := impl_scan_fix.mono_l k; unfold impl_scan_fix.f
 repeat' first
   | (with_reducible exact ih0 _ _ _ _ _)
   | (with_reducible exact ih1 _ _ _ _ _ _)
   | (with_reducible exact LeO.refl _)
   | (with_reducible exact LeO.none _)
   | (with_reducible refine LeO.ite ?_ ?_)
   | (with_reducible refine LeO.bind ?_ (fun _ => ?_))
   | exact ih0 _ _ _ _ _
   | exact ih1 _ _ _ _ _ _
   | exact LeO.none _
   | refine LeO.ite ?_ ?_
   | refine LeO.bind ?_ (fun _ => ?_)
set_option maxHeartbeats 8000000 in
set_option maxRecDepth 100000 in
theorem impl_scan_fix.calls (k : Nat) (g : Nat) (s0_0 : ByteArray) (s0_1 : Int) (s0_2 : Bool) (a1 : Int) (r1 : Int) (r2 : ByteArray) (r3 : Int) (r4 : Bool) (w0 w : World) (hI : IsS333 w0 w g s0_0 s0_1 s0_2) (hB : Below w0.heap.size w0 w) (h : impl_scan_fix.f k s0_0 s0_1 s0_2 a1 = some (r1, r2, r3, r4)) :
  Calls Try.prog 236 #[.pointer (some ⟨g, 0, none⟩), .int .i64 a1] w fun e w' => e = .returned (.int .i64 r1) ∧ IsS333 w0 w' g r2 r3 r4 ∧ Below w0.heap.size w0 w' ∧ KeepBut w w' g none := by
 have HI0 := Aside0.mk hI; have HK := Aside0.mk (KeepBut.refl w g none); have HL := Aside0.mk hB.size; clear hI; have HW0 := Aside0.mk hB.size; have HB := Aside0.mk hB; clear hB; have H : (if s0_2 = true then (impl_scan_fix.j0 k a1 true s0_0 s0_1 s0_2) else (impl_scan_fix.j0 k a1 (decide ((wrap64 ((s0_0.size : Int) - s0_1)) < a1)) s0_0 s0_1 s0_2)) = some (r1, r2, r3, r4) := h; clear h; have HC3 := Aside0.mk H; clear H; go_enter Try.func236, Try.ntmps236; go_upto_region 1 with (fail)
 repeat (go_quiet (fail); go_upto_region 1 with (fail))
 go_cut [24] (fun v24 wc => ∃ (kq : Nat) (x24_2 : Bool), v24 = .bool x24_2 ∧ Aside0 (impl_scan_fix.j0 kq a1 x24_2 s0_0 s0_1 s0_2 = some (r1, r2, r3, r4)) ∧ Aside0 (kq ≤ k) ∧ Aside0 (IsS333 w0 wc g s0_0 s0_1 s0_2) ∧ Aside0 (KeepBut w wc g none) ∧ Aside0 (Below w0.heap.size w0 wc))
 case first =>
  have H := HC3.out; clear HC3; by_cases c4 : s0_2 = true
  ·subst c4
   rw [if_pos rfl] at H; have H' := Aside0.mk H; clear H; obtain ⟨HGz5, hgz5⟩ := HI0.out; have hcz5_0 := cellS333_0 HGz5; have hcz5_1 := cellS333_1 HGz5; have hcz5_2 := cellS333_2 HGz5; have hfz5_0 := blk_frozen HGz5 0; have hfz5_1 := blk_frozen HGz5 1; have hfz5_2 := blk_frozen HGz5 2; clear HGz5 hgz5; go_wp2
   repeat (go_quiet (fail); try go_wp2)
   go_meet
   case rel => exact ⟨_, (true), Bf_7, H', ⟨(by first | omega | exact Nat.le_refl _)⟩, ⟨Bf_2⟩, ⟨Bf_1⟩, ⟨Bf_3⟩⟩
  ·replace c4 := Bool.eq_false_iff.mpr c4
   subst c4; rw [if_neg (show ¬ (false = true) by decide)] at H; have H' := Aside0.mk H; clear H; obtain ⟨HGz6, hgz6⟩ := HI0.out; have hcz6_0 := cellS333_0 HGz6; have hcz6_1 := cellS333_1 HGz6; have hcz6_2 := cellS333_2 HGz6; have hfz6_0 := blk_frozen HGz6 0; have hfz6_1 := blk_frozen HGz6 1; have hfz6_2 := blk_frozen HGz6 2; clear HGz6 hgz6; go_wp2
   repeat (go_quiet (fail); try go_wp2)
   go_meet
   case rel => exact ⟨_, (decide ((wrap64 ((s0_0.size : Int) - s0_1)) < a1)), Bf_7, H', ⟨(by first | omega | exact Nat.le_refl _)⟩, ⟨Bf_2⟩, ⟨Bf_1⟩, ⟨Bf_3⟩⟩
 case rest =>
  clear HC3; try clear c2; try clear p2; try clear c4; try clear p6; try clear hz5; try clear hz6
  obtain ⟨kq, x24_2, rfl, HA, HJ2, HI0, HK, HB⟩ := hcut; cases kq with
  | zero => exact absurd HA.out (by simp [impl_scan_fix.j0])
  | succ kj2 =>
   have H := HA.out; clear HA; simp only [impl_scan_fix.j0] at H; by_cases c7 : x24_2 = true
   ·subst c7
    rw [if_pos rfl] at H; simp only [Option.some.injEq, Prod.mk.injEq] at H; obtain ⟨rfl, rfl, rfl, rfl⟩ := H; obtain ⟨HGz8, hgz8⟩ := HI0.out; have hcz8_0 := cellS333_0 HGz8; have hcz8_1 := cellS333_1 HGz8; have hcz8_2 := cellS333_2 HGz8; have hfz8_0 := blk_frozen HGz8 0; have hfz8_1 := blk_frozen HGz8 1; have hfz8_2 := blk_frozen HGz8 2; clear HGz8 hgz8; go_wp2
    repeat (go_quiet (fail); try go_wp2)
    go_ret; exact ⟨Bf_5, Bf_2, Bf_3, Bf_1⟩
   ·replace c7 := Bool.eq_false_iff.mpr c7
    subst c7; rw [if_neg (show ¬ (false = true) by decide)] at H; have H' := Aside0.mk H; clear H; go_wp2
    repeat (go_quiet (fail); try go_wp2)
    go_loopg [5, 6] kj2 (fun kq v5 v6 w' => ∃ (x5_2 : Int) (x6_2 : Int), v5 = .int .i64 x5_2 ∧ v6 = .int .i64 x6_2 ∧ Aside0 (impl_scan_fix.l0 kq a1 x5_2 x6_2 s0_0 s0_1 s0_2 = some (r1, r2, r3, r4)) ∧ Aside0 (kq ≤ kj2) ∧ Aside0 (IsS333 w0 w' g s0_0 s0_1 s0_2) ∧ Aside0 (KeepBut w w' g none) ∧ Aside0 (Below w0.heap.size w0 w'))
    case atStart => exact ⟨(0), (0), Bf_7, Bf_7, H', ⟨Nat.le_refl _⟩, ⟨Bf_2⟩, ⟨Bf_1⟩, ⟨Bf_3⟩⟩
    case round =>
     clear H'; try clear c2; try clear p2; try clear c4; try clear p6; try clear c7; try clear hz5; try clear hz6; try clear hz8
     obtain ⟨x5_2, x6_2, rfl, rfl, HA, HK2, HI0, HK, HB⟩ := hrel; cases gk with
     | zero => exact absurd HA.out (by simp [impl_scan_fix.l0])
     | succ k2 =>
      have H := HA.out; clear HA; simp only [impl_scan_fix.l0] at H; by_cases c9 : x6_2 < a1
      ·rw [if_pos c9] at H
       have c9b0 : decide (x6_2 < a1) = true := decide_eq_true c9; clear c9; obtain ⟨ji10, hji10⟩ : ∃ j_ : Int, (wrap64 (s0_1 + x6_2)) = j_ := ⟨_, rfl⟩; (first | rw [hji10] at H | simp only [hji10] at H); have hji10w : (IntKind.i64.wrap (s0_1 + x6_2)) = ji10 := (i64_w _).trans hji10; by_cases c11 : 0 ≤ (ji10)
       ·rw [if_pos c11] at H
        have c11b0 : decide (0 ≤ (ji10)) = true := decide_eq_true c11; clear c11; by_cases c12 : (ji10) < (s0_0.size : Int)
        ·rw [if_pos c12] at H
         have c12b0 : decide ((ji10) < (s0_0.size : Int)) = true := decide_eq_true c12; clear c12; have H' := Aside0.mk H; clear H; obtain ⟨HGz14, hgz14⟩ := HI0.out; have hcz14_0 := cellS333_0 HGz14; have hcz14_1 := cellS333_1 HGz14; have hcz14_2 := cellS333_2 HGz14; have hfz14_0 := blk_frozen HGz14 0; have hfz14_1 := blk_frozen HGz14 1; have hfz14_2 := blk_frozen HGz14 2; clear HGz14 hgz14; have p13 : 0 ≤ ((ji10) : Int) := of_decide_eq_true Bf_9; have q13 : (ji10) < (s0_0.size : Int) := of_decide_eq_true Bf_9; have hx13 := bt_at s0_0 (ji10); replace p13 := eq_true p13; replace q13 := eq_true q13; go_wp2
         repeat (go_quiet (fail); try go_wp2)
         go_roundg k2
         case measure => have := HJ2.out; have := HK2.out; omega
         case rel => exact ⟨(Go.bits .or .i64 (wrap64 (x5_2 * 2)) (((bt s0_0 (ji10)) - 48) % 256)), (wrap64 (x6_2 + 1)), (by first | rfl | (simp; done) | (simp only [← hji10] <;> (first | rfl | simp)) | (simp [*]; done)), Bf_7, H', ⟨(by have := HJ2.out; have := HK2.out; omega)⟩, ⟨Bf_2⟩, ⟨Bf_1⟩, ⟨Bf_3⟩⟩
        ·rw [if_neg c12] at H
         exact absurd H (by simp)
       ·rw [if_neg c11] at H
        exact absurd H (by simp)
      ·rw [if_neg c9] at H
       have c9b0 : decide (x6_2 < a1) = false := decide_eq_false c9; clear c9; simp only [Option.some.injEq, Prod.mk.injEq] at H; obtain ⟨rfl, rfl, rfl, rfl⟩ := H; obtain ⟨HGz15, hgz15⟩ := HI0.out; have hcz15_0 := cellS333_0 HGz15; have hcz15_1 := cellS333_1 HGz15; have hcz15_2 := cellS333_2 HGz15; have hfz15_0 := blk_frozen HGz15 0; have hfz15_1 := blk_frozen HGz15 1; have hfz15_2 := blk_frozen HGz15 2; clear HGz15 hgz15; go_wp2
       repeat (go_quiet (fail); try go_wp2)
       go_ret; exact ⟨Bf_5, Bf_2, Bf_3, Bf_1⟩
end Go.Proofs.Ytbjambmdononiaa.PFnExactPictureParts
namespace Go.Proofs.Ytbjambmdononiaa.PFnExactPictureParts
open Go.RowKit Go.Proofs.YtbjambmdononiaaW.PrintWords Go.Proofs.YtbjambmdononiaaW.PrintLast Go.Proofs.YtbjambmdononiaaW.PrintMore
attribute [local go_sem] max2_int min2_int max_two min_two max_three min_three max_four min_four
set_option linter.unusedVariables false
set_option linter.unusedSimpArgs false
mutual
def impl_scan_ue.j1 : Nat → Int → ByteArray → Int → Bool → Option (Int × ByteArray × Int × Bool)
 | 0, _, _, _, _ => none
 | k + 1, x3, x1000, x1001, x1002 => if x3 > 20 then ((impl_scan_fix.f k x1000 x1001 true (wrap64 ((wrap64 (2 * x3)) + 1))).bind fun bt291 => (if bt291.2.2.2 = true then (some (0, bt291.2.1, bt291.2.2.1, true)) else (if (wrap64 (bt291.1 - 1)) > 1000000 then (some (0, bt291.2.1, bt291.2.2.1, true)) else (some (wrap64 (bt291.1 - 1), bt291.2.1, bt291.2.2.1, bt291.2.2.2))))) else ((impl_scan_fix.f k x1000 x1001 x1002 (wrap64 ((wrap64 (2 * x3)) + 1))).bind fun bt295 => (if bt295.2.2.2 = true then (some (0, bt295.2.1, bt295.2.2.1, true)) else (if (wrap64 (bt295.1 - 1)) > 1000000 then (some (0, bt295.2.1, bt295.2.2.1, true)) else (some (wrap64 (bt295.1 - 1), bt295.2.1, bt295.2.2.1, bt295.2.2.2)))))
def impl_scan_ue.l0 : Nat → Int → ByteArray → Int → Bool → Option (Int × ByteArray × Int × Bool)
 | 0, _, _, _, _ => none
 | k + 1, x3, x1000, x1001, x1002 => if x1002 = true then (impl_scan_ue.j1 k x3 x1000 x1001 x1002) else (if (wrap64 (x1001 + x3)) < (x1000.size : Int) then (if 0 ≤ (wrap64 (x1001 + x3)) then (if (bt x1000 (wrap64 (x1001 + x3))) = 48 then (impl_scan_ue.l0 k (wrap64 (x3 + 1)) x1000 x1001 x1002) else (impl_scan_ue.j1 k x3 x1000 x1001 x1002)) else (none)) else (impl_scan_ue.j1 k x3 x1000 x1001 x1002))
end
def impl_scan_ue.f (k : Nat) (s0_0 : ByteArray) (s0_1 : Int) (s0_2 : Bool) : Option (Int × ByteArray × Int × Bool) := impl_scan_ue.l0 k 0 s0_0 s0_1 s0_2
theorem impl_scan_ue.mono_l : ∀ k, (∀ y0 y1 y2 y3, LeO (impl_scan_ue.j1 k y0 y1 y2 y3) (impl_scan_ue.j1 (k + 1) y0 y1 y2 y3)) ∧ (∀ y0 y1 y2 y3, LeO (impl_scan_ue.l0 k y0 y1 y2 y3) (impl_scan_ue.l0 (k + 1) y0 y1 y2 y3))
 | 0 => ⟨fun _ _ _ _ r h => by simp [impl_scan_ue.j1] at h, fun _ _ _ _ r h => by simp [impl_scan_ue.l0] at h⟩
 | k + 1 => by
  obtain ⟨ih0, ih1⟩ := impl_scan_ue.mono_l k; refine ⟨?_, ?_⟩
  ·intro y0 y1 y2 y3
   unfold impl_scan_ue.j1
   repeat' first
   | (with_reducible exact ih0 _ _ _ _)
   | (with_reducible exact ih1 _ _ _ _)
   | (with_reducible exact impl_scan_fix.mono _ _ _ _ _)
   | (with_reducible exact LeO.refl _)
   | (with_reducible exact LeO.none _)
   | (with_reducible refine LeO.ite ?_ ?_)
   | (with_reducible refine LeO.bind ?_ (fun _ => ?_))
   | exact ih0 _ _ _ _
   | exact ih1 _ _ _ _
   | exact impl_scan_fix.mono _ _ _ _ _
   | exact LeO.none _
   | refine LeO.ite ?_ ?_
   | refine LeO.bind ?_ (fun _ => ?_)
  ·intro y0 y1 y2 y3
   unfold impl_scan_ue.l0
   repeat' first
   | (with_reducible exact ih0 _ _ _ _)
   | (with_reducible exact ih1 _ _ _ _)
   | (with_reducible exact impl_scan_fix.mono _ _ _ _ _)
   | (with_reducible exact LeO.refl _)
   | (with_reducible exact LeO.none _)
   | (with_reducible refine LeO.ite ?_ ?_)
   | (with_reducible refine LeO.bind ?_ (fun _ => ?_))
   | exact ih0 _ _ _ _
   | exact ih1 _ _ _ _
   | exact impl_scan_fix.mono _ _ _ _ _
   | exact LeO.none _
   | refine LeO.ite ?_ ?_
   | refine LeO.bind ?_ (fun _ => ?_)
theorem impl_scan_ue.mono : ∀ a0 a1 a2 k, LeO (impl_scan_ue.f k a0 a1 a2) (impl_scan_ue.f (k + 1) a0 a1 a2) := by
 intro a0 a1 a2 k; obtain ⟨ih0, ih1⟩ := impl_scan_ue.mono_l k; unfold impl_scan_ue.f
 repeat' first
   | (with_reducible exact ih0 _ _ _ _)
   | (with_reducible exact ih1 _ _ _ _)
   | (with_reducible exact impl_scan_fix.mono _ _ _ _ _)
   | (with_reducible exact LeO.refl _)
   | (with_reducible exact LeO.none _)
   | (with_reducible refine LeO.ite ?_ ?_)
   | (with_reducible refine LeO.bind ?_ (fun _ => ?_))
   | exact ih0 _ _ _ _
   | exact ih1 _ _ _ _
   | exact impl_scan_fix.mono _ _ _ _ _
   | exact LeO.none _
   | refine LeO.ite ?_ ?_
   | refine LeO.bind ?_ (fun _ => ?_)
set_option maxHeartbeats 8000000 in
set_option maxRecDepth 100000 in
theorem impl_scan_ue.calls (k : Nat) (g : Nat) (s0_0 : ByteArray) (s0_1 : Int) (s0_2 : Bool) (r1 : Int) (r2 : ByteArray) (r3 : Int) (r4 : Bool) (w0 w : World) (hI : IsS333 w0 w g s0_0 s0_1 s0_2) (hB : Below w0.heap.size w0 w) (h : impl_scan_ue.f k s0_0 s0_1 s0_2 = some (r1, r2, r3, r4)) :
  Calls Try.prog 235 #[.pointer (some ⟨g, 0, none⟩)] w fun e w' => e = .returned (.int .i64 r1) ∧ IsS333 w0 w' g r2 r3 r4 ∧ Below w0.heap.size w0 w' ∧ KeepBut w w' g none := by
 have HI0 := Aside0.mk hI; have HK := Aside0.mk (KeepBut.refl w g none); have HL := Aside0.mk hB.size; clear hI; have HW0 := Aside0.mk hB.size; have HB := Aside0.mk hB; clear hB; have H : (impl_scan_ue.l0 k 0 s0_0 s0_1 s0_2) = some (r1, r2, r3, r4) := h; clear h; have HC2 := Aside0.mk H; clear H; go_enter Try.func235, Try.ntmps235; go_upto_block 0 with (fail)
 repeat (go_quiet (fail); go_upto_block 0 with (fail))
 go_cut [3] (fun v3 wc => ∃ (kq : Nat) (x3_1 : Int), v3 = .int .i64 x3_1 ∧ Aside0 (impl_scan_ue.j1 kq x3_1 s0_0 s0_1 s0_2 = some (r1, r2, r3, r4)) ∧ Aside0 (kq ≤ k) ∧ Aside0 (IsS333 w0 wc g s0_0 s0_1 s0_2) ∧ Aside0 (KeepBut w wc g none) ∧ Aside0 (Below w0.heap.size w0 wc))
 case first =>
  have H := HC2.out; clear HC2; have H' := Aside0.mk H; clear H; go_wp2
  repeat (go_quiet (fail); try go_wp2)
  go_loopg [3] k (fun kq v3 w' => ∃ (x3_1 : Int), v3 = .int .i64 x3_1 ∧ Aside0 (impl_scan_ue.l0 kq x3_1 s0_0 s0_1 s0_2 = some (r1, r2, r3, r4)) ∧ Aside0 (kq ≤ k) ∧ Aside0 (IsS333 w0 w' g s0_0 s0_1 s0_2) ∧ Aside0 (KeepBut w w' g none) ∧ Aside0 (Below w0.heap.size w0 w'))
  case atStart => exact ⟨(0), Bf_7, H', ⟨Nat.le_refl _⟩, ⟨Bf_2⟩, ⟨Bf_1⟩, ⟨Bf_3⟩⟩
  case round =>
   clear H'; try clear c2; try clear p2
   obtain ⟨x3_1, rfl, HA, HK1, HI0, HK, HB⟩ := hrel; cases gk with
   | zero => exact absurd HA.out (by simp [impl_scan_ue.l0])
   | succ k1 =>
    have H := HA.out; clear HA; simp only [impl_scan_ue.l0] at H; by_cases c3 : s0_2 = true
    ·subst c3
     rw [if_pos rfl] at H; have H' := Aside0.mk H; clear H; obtain ⟨HGz4, hgz4⟩ := HI0.out; have hcz4_0 := cellS333_0 HGz4; have hcz4_1 := cellS333_1 HGz4; have hcz4_2 := cellS333_2 HGz4; have hfz4_0 := blk_frozen HGz4 0; have hfz4_1 := blk_frozen HGz4 1; have hfz4_2 := blk_frozen HGz4 2; clear HGz4 hgz4; go_wp2
     repeat (go_quiet (fail); try go_wp2)
     go_meet
     case rel => exact ⟨_, (x3_1), Bf_7, H', ⟨Bf_13⟩, ⟨Bf_2⟩, ⟨Bf_1⟩, ⟨Bf_3⟩⟩
    ·replace c3 := Bool.eq_false_iff.mpr c3
     subst c3; rw [if_neg (show ¬ (false = true) by decide)] at H; by_cases c5 : (wrap64 (s0_1 + x3_1)) < (s0_0.size : Int)
     ·rw [if_pos c5] at H
      have c5b0 : decide ((wrap64 (s0_1 + x3_1)) < (s0_0.size : Int)) = true := decide_eq_true c5; clear c5; (first | rw [c5b0] | (simp only [i64_w, i32_w]; rw [c5b0]) | skip); obtain ⟨ji6, hji6⟩ : ∃ j_ : Int, (wrap64 (s0_1 + x3_1)) = j_ := ⟨_, rfl⟩; (first | rw [hji6] at H | simp only [hji6] at H); (try rw [hji6] at c5b0); have hji6w : (IntKind.i64.wrap (s0_1 + x3_1)) = ji6 := (i64_w _).trans hji6; by_cases c7 : 0 ≤ (ji6)
      ·rw [if_pos c7] at H
       have c7b0 : decide (0 ≤ (ji6)) = true := decide_eq_true c7; clear c7; by_cases c9 : (bt s0_0 (ji6)) = 48
       ·rw [if_pos c9] at H
        have c9b0 : ((bt s0_0 (ji6)) == 48) = true := beq_iff_eq.mpr c9; have c9b1 : ((bt s0_0 (ji6)) != 48) = false := bne_eq_false_iff_eq.mpr c9; clear c9; have H' := Aside0.mk H; clear H; obtain ⟨HGz10, hgz10⟩ := HI0.out; have hcz10_0 := cellS333_0 HGz10; have hcz10_1 := cellS333_1 HGz10; have hcz10_2 := cellS333_2 HGz10; have hfz10_0 := blk_frozen HGz10 0; have hfz10_1 := blk_frozen HGz10 1; have hfz10_2 := blk_frozen HGz10 2; clear HGz10 hgz10; have p8 : 0 ≤ ((ji6) : Int) := of_decide_eq_true Bf_9; have q8 : (ji6) < (s0_0.size : Int) := of_decide_eq_true Bf_9; have hx8 := bt_at s0_0 (ji6); replace p8 := eq_true p8; replace q8 := eq_true q8; go_wp2
        repeat (go_quiet (fail); try go_wp2)
        go_roundg k1
        case measure => have := HK1.out; omega
        case rel => exact ⟨(wrap64 (x3_1 + 1)), Bf_7, H', ⟨(by have := HK1.out; omega)⟩, ⟨Bf_2⟩, ⟨Bf_1⟩, ⟨Bf_3⟩⟩
       ·rw [if_neg c9] at H
        have c9b0 : ((bt s0_0 (ji6)) == 48) = false := beq_eq_false_iff_ne.mpr c9; have c9b1 : ((bt s0_0 (ji6)) != 48) = true := bne_iff_ne.mpr c9; have H' := Aside0.mk H; clear H; obtain ⟨HGz11, hgz11⟩ := HI0.out; have hcz11_0 := cellS333_0 HGz11; have hcz11_1 := cellS333_1 HGz11; have hcz11_2 := cellS333_2 HGz11; have hfz11_0 := blk_frozen HGz11 0; have hfz11_1 := blk_frozen HGz11 1; have hfz11_2 := blk_frozen HGz11 2; clear HGz11 hgz11; have p8 : 0 ≤ ((ji6) : Int) := of_decide_eq_true Bf_9; have q8 : (ji6) < (s0_0.size : Int) := of_decide_eq_true Bf_9; have hx8 := bt_at s0_0 (ji6); replace p8 := eq_true p8; replace q8 := eq_true q8; go_wp2
        repeat (go_quiet (fail); try go_wp2)
        go_meet
        case rel => exact ⟨_, (x3_1), Bf_7, H', ⟨Bf_13⟩, ⟨Bf_2⟩, ⟨Bf_1⟩, ⟨Bf_3⟩⟩
      ·rw [if_neg c7] at H
       exact absurd H (by simp)
     ·rw [if_neg c5] at H
      have c5b0 : decide ((wrap64 (s0_1 + x3_1)) < (s0_0.size : Int)) = false := decide_eq_false c5; clear c5; (first | rw [c5b0] | (simp only [i64_w, i32_w]; rw [c5b0]) | skip); have H' := Aside0.mk H; clear H; obtain ⟨HGz12, hgz12⟩ := HI0.out; have hcz12_0 := cellS333_0 HGz12; have hcz12_1 := cellS333_1 HGz12; have hcz12_2 := cellS333_2 HGz12; have hfz12_0 := blk_frozen HGz12 0; have hfz12_1 := blk_frozen HGz12 1; have hfz12_2 := blk_frozen HGz12 2; clear HGz12 hgz12; go_wp2
      repeat (go_quiet (fail); try go_wp2)
      go_meet
      case rel => exact ⟨_, (x3_1), Bf_7, H', ⟨Bf_13⟩, ⟨Bf_2⟩, ⟨Bf_1⟩, ⟨Bf_3⟩⟩
 case rest =>
  clear HC2; try clear c2; try clear p2; try clear c3; try clear c5; try clear c5b0; try clear p6; try clear c7; try clear c7b0; try clear p8; try clear q8; try clear hx8; try clear c9; try clear c9b0; try clear c9b1; try clear hz10; try clear hz11; try clear hz12; try clear hcz4_0; try clear hcz4_1; try clear hcz4_2; try clear hfz4_0; try clear hfz4_1; try clear hfz4_2
  obtain ⟨kq, x3_1, rfl, HA, HJ1, HI0, HK, HB⟩ := hcut; cases kq with
  | zero => exact absurd HA.out (by simp [impl_scan_ue.j1])
  | succ kj1 =>
   have H := HA.out; clear HA; simp only [impl_scan_ue.j1] at H; by_cases c13 : x3_1 > 20
   ·rw [if_pos c13] at H
    have c13b0 : decide (20 < x3_1) = true := decide_eq_true c13; clear c13; replace H := Option.bind_eq_some_iff.mp H; obtain ⟨⟨t291, t292, t293, t294⟩, A140, H⟩ := H; try dsimp only at H
    have A14 := Aside0.mk A140; clear A140; have HC15 := Aside0.mk H; clear H; obtain ⟨HGz16, hgz16⟩ := HI0.out; have hcz16_0 := cellS333_0 HGz16; have hcz16_1 := cellS333_1 HGz16; have hcz16_2 := cellS333_2 HGz16; have hfz16_0 := blk_frozen HGz16 0; have hfz16_1 := blk_frozen HGz16 1; have hfz16_2 := blk_frozen HGz16 2; clear HGz16 hgz16; go_upto_region 7 with (first | (go_at_call 236; (with_reducible refine (impl_scan_fix.calls kj1 g s0_0 s0_1 true (wrap64 ((wrap64 (2 * x3_1)) + 1)) t291 t292 t293 t294 w0 _ ?side1 ?side2 A14.out).mono ?_); (case side1 => repeat (first | (with_reducible first | exact HI0.out | apply IsS333.alloc | apply IsS333.drewN | apply IsS333.drew | apply IsS333.set_0 | apply IsS333.set_1 | apply IsS333.set_2) | exact HI0.out)); (case side2 => repeat (first | (with_reducible first | exact HB.out | apply below_alloc | apply pw_below_drewN | apply below_drew1 | refine below_set ?_ (IsS333.ge HI0.out)) | exact HB.out)); rintro e w17 ⟨rfl, hi, hb, hk⟩; replace HK := Aside0.mk (KeepBut.trans Bf_1 hk (.inl rfl)); replace HB := Aside0.mk (hb); replace HI0 := Aside0.mk (hi); (try clear hb); (try clear hb2); (try clear hk); (try clear hi)))
    repeat (go_quiet (first | (go_at_call 236; (with_reducible refine (impl_scan_fix.calls kj1 g s0_0 s0_1 true (wrap64 ((wrap64 (2 * x3_1)) + 1)) t291 t292 t293 t294 w0 _ ?side1 ?side2 A14.out).mono ?_); (case side1 => repeat (first | (with_reducible first | exact HI0.out | apply IsS333.alloc | apply IsS333.drewN | apply IsS333.drew | apply IsS333.set_0 | apply IsS333.set_1 | apply IsS333.set_2) | exact HI0.out)); (case side2 => repeat (first | (with_reducible first | exact HB.out | apply below_alloc | apply pw_below_drewN | apply below_drew1 | refine below_set ?_ (IsS333.ge HI0.out)) | exact HB.out)); rintro e w17 ⟨rfl, hi, hb, hk⟩; replace HK := Aside0.mk (KeepBut.trans Bf_1 hk (.inl rfl)); replace HB := Aside0.mk (hb); replace HI0 := Aside0.mk (hi); (try clear hb); (try clear hb2); (try clear hk); (try clear hi))); go_upto_region 7 with (first | (go_at_call 236; (with_reducible refine (impl_scan_fix.calls kj1 g s0_0 s0_1 true (wrap64 ((wrap64 (2 * x3_1)) + 1)) t291 t292 t293 t294 w0 _ ?side1 ?side2 A14.out).mono ?_); (case side1 => repeat (first | (with_reducible first | exact HI0.out | apply IsS333.alloc | apply IsS333.drewN | apply IsS333.drew | apply IsS333.set_0 | apply IsS333.set_1 | apply IsS333.set_2) | exact HI0.out)); (case side2 => repeat (first | (with_reducible first | exact HB.out | apply below_alloc | apply pw_below_drewN | apply below_drew1 | refine below_set ?_ (IsS333.ge HI0.out)) | exact HB.out)); rintro e w17 ⟨rfl, hi, hb, hk⟩; replace HK := Aside0.mk (KeepBut.trans Bf_1 hk (.inl rfl)); replace HB := Aside0.mk (hb); replace HI0 := Aside0.mk (hi); (try clear hb); (try clear hb2); (try clear hk); (try clear hi))))
    (try simp only [Act.put, List.setIfInBounds_toArray, List.set_cons_zero, List.set_cons_succ]); have H := HC15.out; clear HC15; by_cases c18 : t294 = true
    ·subst c18
     rw [if_pos rfl] at H; simp only [Option.some.injEq, Prod.mk.injEq] at H; obtain ⟨rfl, rfl, rfl, rfl⟩ := H; obtain ⟨HGz19, hgz19⟩ := HI0.out; have hcz19_0 := cellS333_0 HGz19; have hcz19_1 := cellS333_1 HGz19; have hcz19_2 := cellS333_2 HGz19; have hfz19_0 := blk_frozen HGz19 0; have hfz19_1 := blk_frozen HGz19 1; have hfz19_2 := blk_frozen HGz19 2; clear HGz19 hgz19; go_wp2
     repeat (go_quiet (fail); try go_wp2)
     go_ret; exact ⟨Bf_5, Bf_2, Bf_3, Bf_1⟩
    ·replace c18 := Bool.eq_false_iff.mpr c18
     subst c18; rw [if_neg (show ¬ (false = true) by decide)] at H; by_cases c20 : (wrap64 (t291 - 1)) > 1000000
     ·rw [if_pos c20] at H
      have c20b0 : decide (1000000 < (wrap64 (t291 - 1))) = true := decide_eq_true c20; clear c20; (first | rw [c20b0] | (simp only [i64_w, i32_w]; rw [c20b0]) | skip); simp only [Option.some.injEq, Prod.mk.injEq] at H; obtain ⟨rfl, rfl, rfl, rfl⟩ := H; obtain ⟨HGz21, hgz21⟩ := HI0.out; have hcz21_0 := cellS333_0 HGz21; have hcz21_1 := cellS333_1 HGz21; have hcz21_2 := cellS333_2 HGz21; have hfz21_0 := blk_frozen HGz21 0; have hfz21_1 := blk_frozen HGz21 1; have hfz21_2 := blk_frozen HGz21 2; clear HGz21 hgz21; go_wp2
      repeat (go_quiet (fail); try go_wp2)
      go_ret; exact ⟨Bf_5, Bf_2, Bf_3, Bf_1⟩
     ·rw [if_neg c20] at H
      have c20b0 : decide (1000000 < (wrap64 (t291 - 1))) = false := decide_eq_false c20; clear c20; (first | rw [c20b0] | (simp only [i64_w, i32_w]; rw [c20b0]) | skip); simp only [Option.some.injEq, Prod.mk.injEq] at H; obtain ⟨rfl, rfl, rfl, rfl⟩ := H; obtain ⟨HGz22, hgz22⟩ := HI0.out; have hcz22_0 := cellS333_0 HGz22; have hcz22_1 := cellS333_1 HGz22; have hcz22_2 := cellS333_2 HGz22; have hfz22_0 := blk_frozen HGz22 0; have hfz22_1 := blk_frozen HGz22 1; have hfz22_2 := blk_frozen HGz22 2; clear HGz22 hgz22; go_wp2
      repeat (go_quiet (fail); try go_wp2)
      go_ret; exact ⟨Bf_5, Bf_2, Bf_3, Bf_1⟩
   ·rw [if_neg c13] at H
    have c13b0 : decide (20 < x3_1) = false := decide_eq_false c13; clear c13; replace H := Option.bind_eq_some_iff.mp H; obtain ⟨⟨t295, t296, t297, t298⟩, A230, H⟩ := H; try dsimp only at H
    have A23 := Aside0.mk A230; clear A230; have HC24 := Aside0.mk H; clear H; go_upto_region 7 with (first | (go_at_call 236; (with_reducible refine (impl_scan_fix.calls kj1 g s0_0 s0_1 s0_2 (wrap64 ((wrap64 (2 * x3_1)) + 1)) t295 t296 t297 t298 w0 _ ?side1 ?side2 A23.out).mono ?_); (case side1 => repeat (first | (with_reducible first | exact HI0.out | apply IsS333.alloc | apply IsS333.drewN | apply IsS333.drew | apply IsS333.set_0 | apply IsS333.set_1 | apply IsS333.set_2) | exact HI0.out)); (case side2 => repeat (first | (with_reducible first | exact HB.out | apply below_alloc | apply pw_below_drewN | apply below_drew1 | refine below_set ?_ (IsS333.ge HI0.out)) | exact HB.out)); rintro e w25 ⟨rfl, hi, hb, hk⟩; replace HK := Aside0.mk (KeepBut.trans Bf_1 hk (.inl rfl)); replace HB := Aside0.mk (hb); replace HI0 := Aside0.mk (hi); (try clear hb); (try clear hb2); (try clear hk); (try clear hi)))
    repeat (go_quiet (first | (go_at_call 236; (with_reducible refine (impl_scan_fix.calls kj1 g s0_0 s0_1 s0_2 (wrap64 ((wrap64 (2 * x3_1)) + 1)) t295 t296 t297 t298 w0 _ ?side1 ?side2 A23.out).mono ?_); (case side1 => repeat (first | (with_reducible first | exact HI0.out | apply IsS333.alloc | apply IsS333.drewN | apply IsS333.drew | apply IsS333.set_0 | apply IsS333.set_1 | apply IsS333.set_2) | exact HI0.out)); (case side2 => repeat (first | (with_reducible first | exact HB.out | apply below_alloc | apply pw_below_drewN | apply below_drew1 | refine below_set ?_ (IsS333.ge HI0.out)) | exact HB.out)); rintro e w25 ⟨rfl, hi, hb, hk⟩; replace HK := Aside0.mk (KeepBut.trans Bf_1 hk (.inl rfl)); replace HB := Aside0.mk (hb); replace HI0 := Aside0.mk (hi); (try clear hb); (try clear hb2); (try clear hk); (try clear hi))); go_upto_region 7 with (first | (go_at_call 236; (with_reducible refine (impl_scan_fix.calls kj1 g s0_0 s0_1 s0_2 (wrap64 ((wrap64 (2 * x3_1)) + 1)) t295 t296 t297 t298 w0 _ ?side1 ?side2 A23.out).mono ?_); (case side1 => repeat (first | (with_reducible first | exact HI0.out | apply IsS333.alloc | apply IsS333.drewN | apply IsS333.drew | apply IsS333.set_0 | apply IsS333.set_1 | apply IsS333.set_2) | exact HI0.out)); (case side2 => repeat (first | (with_reducible first | exact HB.out | apply below_alloc | apply pw_below_drewN | apply below_drew1 | refine below_set ?_ (IsS333.ge HI0.out)) | exact HB.out)); rintro e w25 ⟨rfl, hi, hb, hk⟩; replace HK := Aside0.mk (KeepBut.trans Bf_1 hk (.inl rfl)); replace HB := Aside0.mk (hb); replace HI0 := Aside0.mk (hi); (try clear hb); (try clear hb2); (try clear hk); (try clear hi))))
    (try simp only [Act.put, List.setIfInBounds_toArray, List.set_cons_zero, List.set_cons_succ]); have H := HC24.out; clear HC24; by_cases c26 : t298 = true
    ·subst c26
     rw [if_pos rfl] at H; simp only [Option.some.injEq, Prod.mk.injEq] at H; obtain ⟨rfl, rfl, rfl, rfl⟩ := H; obtain ⟨HGz27, hgz27⟩ := HI0.out; have hcz27_0 := cellS333_0 HGz27; have hcz27_1 := cellS333_1 HGz27; have hcz27_2 := cellS333_2 HGz27; have hfz27_0 := blk_frozen HGz27 0; have hfz27_1 := blk_frozen HGz27 1; have hfz27_2 := blk_frozen HGz27 2; clear HGz27 hgz27; go_wp2
     repeat (go_quiet (fail); try go_wp2)
     go_ret; exact ⟨Bf_5, Bf_2, Bf_3, Bf_1⟩
    ·replace c26 := Bool.eq_false_iff.mpr c26
     subst c26; rw [if_neg (show ¬ (false = true) by decide)] at H; by_cases c28 : (wrap64 (t295 - 1)) > 1000000
     ·rw [if_pos c28] at H
      have c28b0 : decide (1000000 < (wrap64 (t295 - 1))) = true := decide_eq_true c28; clear c28; (first | rw [c28b0] | (simp only [i64_w, i32_w]; rw [c28b0]) | skip); simp only [Option.some.injEq, Prod.mk.injEq] at H; obtain ⟨rfl, rfl, rfl, rfl⟩ := H; obtain ⟨HGz29, hgz29⟩ := HI0.out; have hcz29_0 := cellS333_0 HGz29; have hcz29_1 := cellS333_1 HGz29; have hcz29_2 := cellS333_2 HGz29; have hfz29_0 := blk_frozen HGz29 0; have hfz29_1 := blk_frozen HGz29 1; have hfz29_2 := blk_frozen HGz29 2; clear HGz29 hgz29; go_wp2
      repeat (go_quiet (fail); try go_wp2)
      go_ret; exact ⟨Bf_5, Bf_2, Bf_3, Bf_1⟩
     ·rw [if_neg c28] at H
      have c28b0 : decide (1000000 < (wrap64 (t295 - 1))) = false := decide_eq_false c28; clear c28; (first | rw [c28b0] | (simp only [i64_w, i32_w]; rw [c28b0]) | skip); simp only [Option.some.injEq, Prod.mk.injEq] at H; obtain ⟨rfl, rfl, rfl, rfl⟩ := H; obtain ⟨HGz30, hgz30⟩ := HI0.out; have hcz30_0 := cellS333_0 HGz30; have hcz30_1 := cellS333_1 HGz30; have hcz30_2 := cellS333_2 HGz30; have hfz30_0 := blk_frozen HGz30 0; have hfz30_1 := blk_frozen HGz30 1; have hfz30_2 := blk_frozen HGz30 2; clear HGz30 hgz30; go_wp2
      repeat (go_quiet (fail); try go_wp2)
      go_ret; exact ⟨Bf_5, Bf_2, Bf_3, Bf_1⟩
end Go.Proofs.Ytbjambmdononiaa.PFnExactPictureParts
namespace Go.Proofs.Ytbjambmdononiaa.PFnExactPictureParts
open Go.RowKit Go.Proofs.YtbjambmdononiaaW.PrintWords Go.Proofs.YtbjambmdononiaaW.PrintLast Go.Proofs.YtbjambmdononiaaW.PrintMore
attribute [local go_sem] max2_int min2_int max_two min_two max_three min_three max_four min_four
set_option linter.unusedVariables false
set_option linter.unusedSimpArgs false
def impl_OpenSe.f (a0 : Int) : Option (Int × Bool) := (impl_within.f a0 0 1000000).bind fun t299 => (if t299 = true then (if (Int.tmod a0 2) = 1 then (some (wrap64 (Int.tdiv (wrap64 (a0 + 1)) 2), true)) else (some (wrap64 (Int.tdiv (wrap64 (-a0)) 2), true))) else (some (0, false)))
set_option maxHeartbeats 8000000 in
set_option maxRecDepth 100000 in
theorem impl_OpenSe.calls (a0 : Int) (r1 : Int) (r2 : Bool) (w : World) (h : impl_OpenSe.f a0 = some (r1, r2)) :
  Calls Try.prog 279 #[.int .i64 a0] w fun e w' => e = .returned (.tuple #[.int .i64 r1, .bool r2]) ∧ Drawn0 w w' := by
 have H : ((impl_within.f a0 0 1000000).bind fun t299 => (if t299 = true then (if (Int.tmod a0 2) = 1 then (some (wrap64 (Int.tdiv (wrap64 (a0 + 1)) 2), true)) else (some (wrap64 (Int.tdiv (wrap64 (-a0)) 2), true))) else (some (0, false)))) = some (r1, r2) := h; clear h; replace H := Option.bind_eq_some_iff.mp H; obtain ⟨t299, A20, H⟩ := H; try dsimp only at H
 have A2 := Aside0.mk A20; clear A20; have HC3 := Aside0.mk H; clear H; go_enter Try.func279, Try.ntmps279; go_upto_if 4 with (first | ((with_reducible refine gate_callee (f := 112) rfl ?_); refine gA_ (some 6) Try.func112 (impl_within.calls _ _ _ _ _ A2.out) ?_; rintro e w' ⟨rfl, ⟨nd, rfl⟩⟩; refine ⟨_, rfl, ?_⟩))
 (try simp only [Act.put, List.setIfInBounds_toArray, List.set_cons_zero, List.set_cons_succ]); have H := HC3.out; clear HC3; by_cases c4 : t299 = true
 ·subst c4
  rw [if_pos rfl] at H; by_cases c5 : (Int.tmod a0 2) = 1
  ·rw [if_pos c5] at H
   have c5b0 : ((Int.tmod a0 2) == 1) = true := beq_iff_eq.mpr c5; have c5b1 : ((Int.tmod a0 2) != 1) = false := bne_eq_false_iff_eq.mpr c5; clear c5; (first | rw [c5b0] | (simp only [i64_w, i32_w]; rw [c5b0]) | skip); simp only [Option.some.injEq, Prod.mk.injEq] at H; obtain ⟨rfl, rfl⟩ := H; go_wp2; go_ret2
   exact ⟨Bf_7, Bf_12⟩
  ·rw [if_neg c5] at H
   have c5b0 : ((Int.tmod a0 2) == 1) = false := beq_eq_false_iff_ne.mpr c5; have c5b1 : ((Int.tmod a0 2) != 1) = true := bne_iff_ne.mpr c5; (first | rw [c5b0] | (simp only [i64_w, i32_w]; rw [c5b0]) | skip); simp only [Option.some.injEq, Prod.mk.injEq] at H; obtain ⟨rfl, rfl⟩ := H; go_wp2; go_ret2
   exact ⟨Bf_7, Bf_12⟩
 ·replace c4 := Bool.eq_false_iff.mpr c4
  subst c4; rw [if_neg (show ¬ (false = true) by decide)] at H; simp only [Option.some.injEq, Prod.mk.injEq] at H; obtain ⟨rfl, rfl⟩ := H; go_wp2; go_ret2
  exact ⟨Bf_7, Bf_12⟩
end Go.Proofs.Ytbjambmdononiaa.PFnExactPictureParts
namespace Go.Proofs.Ytbjambmdononiaa.PFnExactPictureParts
open Go.RowKit Go.Proofs.YtbjambmdononiaaW.PrintWords Go.Proofs.YtbjambmdononiaaW.PrintLast Go.Proofs.YtbjambmdononiaaW.PrintMore
attribute [local go_sem] max2_int min2_int max_two min_two max_three min_three max_four min_four
set_option linter.unusedVariables false
set_option linter.unusedSimpArgs false
def impl_scan_se.f (k : Nat) (s0_0 : ByteArray) (s0_1 : Int) (s0_2 : Bool) : Option (Int × ByteArray × Int × Bool) := (impl_scan_ue.f k s0_0 s0_1 s0_2).bind fun bt300 => ((impl_OpenSe.f bt300.1).bind fun bt304 => (if bt300.2.2.2 = true then (some (bt304.1, bt300.2.1, bt300.2.2.1, true)) else (some (bt304.1, bt300.2.1, bt300.2.2.1, !bt304.2))))
theorem impl_scan_se.mono : ∀ a0 a1 a2 k, LeO (impl_scan_se.f k a0 a1 a2) (impl_scan_se.f (k + 1) a0 a1 a2) := by
 intro a0 a1 a2 k; unfold impl_scan_se.f
 repeat' first
   | (with_reducible exact impl_scan_ue.mono _ _ _ _)
   | (with_reducible exact LeO.refl _)
   | (with_reducible exact LeO.none _)
   | (with_reducible refine LeO.ite ?_ ?_)
   | (with_reducible refine LeO.bind ?_ (fun _ => ?_))
   | exact impl_scan_ue.mono _ _ _ _
   | exact LeO.none _
   | refine LeO.ite ?_ ?_
   | refine LeO.bind ?_ (fun _ => ?_)
set_option maxHeartbeats 8000000 in
set_option maxRecDepth 100000 in
theorem impl_scan_se.calls (k : Nat) (g : Nat) (s0_0 : ByteArray) (s0_1 : Int) (s0_2 : Bool) (r1 : Int) (r2 : ByteArray) (r3 : Int) (r4 : Bool) (w0 w : World) (hI : IsS333 w0 w g s0_0 s0_1 s0_2) (hB : Below w0.heap.size w0 w) (h : impl_scan_se.f k s0_0 s0_1 s0_2 = some (r1, r2, r3, r4)) :
  Calls Try.prog 237 #[.pointer (some ⟨g, 0, none⟩)] w fun e w' => e = .returned (.int .i64 r1) ∧ IsS333 w0 w' g r2 r3 r4 ∧ Below w0.heap.size w0 w' ∧ KeepBut w w' g none := by
 have HI0 := Aside0.mk hI; have HK := Aside0.mk (KeepBut.refl w g none); have HL := Aside0.mk hB.size; clear hI; have HW0 := Aside0.mk hB.size; have HB := Aside0.mk hB; clear hB; have H : ((impl_scan_ue.f k s0_0 s0_1 s0_2).bind fun bt300 => ((impl_OpenSe.f bt300.1).bind fun bt304 => (if bt300.2.2.2 = true then (some (bt304.1, bt300.2.1, bt300.2.2.1, true)) else (some (bt304.1, bt300.2.1, bt300.2.2.1, !bt304.2))))) = some (r1, r2, r3, r4) := h; clear h; replace H := Option.bind_eq_some_iff.mp H; obtain ⟨⟨t300, t301, t302, t303⟩, A20, H⟩ := H; try dsimp only at H
 have A2 := Aside0.mk A20; clear A20; replace H := Option.bind_eq_some_iff.mp H; obtain ⟨⟨t304, t305⟩, A30, H⟩ := H; try dsimp only at H
 have A3 := Aside0.mk A30; clear A30; have HC4 := Aside0.mk H; clear H; go_enter Try.func237, Try.ntmps237; go_upto_region 2 with (first | ((with_reducible refine gate_callee (f := 235) rfl ?_); refine gA_ (some 7) Try.func235 (impl_scan_ue.calls _ g _ _ _ _ _ _ _ w0 _ ?side1 ?side2 A2.out) ?_; (case side1 => repeat (first | (with_reducible first | exact HI0.out | apply IsS333.alloc | apply IsS333.drewN | apply IsS333.drew | apply IsS333.set_0 | apply IsS333.set_1 | apply IsS333.set_2) | exact HI0.out)); (case side2 => repeat (first | (with_reducible first | exact HB.out | apply below_alloc | apply pw_below_drewN | apply below_drew1 | refine below_set ?_ (IsS333.ge HI0.out)) | exact HB.out)); rintro e w5 ⟨rfl, hi, hb, hk⟩; refine ⟨_, rfl, ?_⟩; replace HK := Aside0.mk (KeepBut.trans Bf_1 hk (.inl rfl)); replace HB := Aside0.mk (hb); replace HI0 := Aside0.mk (hi); (try clear hb); (try clear hb2); (try clear hk); (try clear hi)) | ((with_reducible refine gate_callee (f := 279) rfl ?_); refine gA_ (some 8) Try.func279 (impl_OpenSe.calls _ _ _ _ A3.out) ?_; rintro e w' ⟨rfl, ⟨nd, rfl⟩⟩; refine ⟨_, rfl, ?_⟩))
 (try simp only [Act.put, List.setIfInBounds_toArray, List.set_cons_zero, List.set_cons_succ]); have H := HC4.out; clear HC4; by_cases c6 : t303 = true
 ·subst c6
  rw [if_pos rfl] at H; simp only [Option.some.injEq, Prod.mk.injEq] at H; obtain ⟨rfl, rfl, rfl, rfl⟩ := H; obtain ⟨HGz7, hgz7⟩ := HI0.out; have hcz7_0 := cellS333_0 HGz7; have hcz7_1 := cellS333_1 HGz7; have hcz7_2 := cellS333_2 HGz7; have hfz7_0 := blk_frozen HGz7 0; have hfz7_1 := blk_frozen HGz7 1; have hfz7_2 := blk_frozen HGz7 2; clear HGz7 hgz7; go_wp2; go_ret; exact ⟨Bf_5, Bf_2, Bf_3, Bf_1⟩
 ·replace c6 := Bool.eq_false_iff.mpr c6
  subst c6; rw [if_neg (show ¬ (false = true) by decide)] at H; simp only [Option.some.injEq, Prod.mk.injEq] at H; obtain ⟨rfl, rfl, rfl, rfl⟩ := H; obtain ⟨HGz8, hgz8⟩ := HI0.out; have hcz8_0 := cellS333_0 HGz8; have hcz8_1 := cellS333_1 HGz8; have hcz8_2 := cellS333_2 HGz8; have hfz8_0 := blk_frozen HGz8 0; have hfz8_1 := blk_frozen HGz8 1; have hfz8_2 := blk_frozen HGz8 2; clear HGz8 hgz8; go_wp2; go_ret; exact ⟨Bf_5, Bf_2, Bf_3, Bf_1⟩
end Go.Proofs.Ytbjambmdononiaa.PFnExactPictureParts
namespace Go.Proofs.Ytbjambmdononiaa.PFnExactPictureParts
open Go.RowKit Go.Proofs.YtbjambmdononiaaW.PrintWords Go.Proofs.YtbjambmdononiaaW.PrintLast Go.Proofs.YtbjambmdononiaaW.PrintMore
attribute [local go_sem] max2_int min2_int max_two min_two max_three min_three max_four min_four
set_option linter.unusedVariables false
set_option linter.unusedSimpArgs false
def impl_HeadOk.f (k : Nat) (a0_0 : Int) (a0_1 : Int) (l0_2 : List Int) (l0_3 : List Int) (a1_0 : Int) (a1_1 : Bool) (a1_2 : Bool) (a1_3 : Bool) (a2_0 : Int) (a2_1 : Int) (a2_2 : Int) : Option (Bool) := (impl_SeqOk.f k a0_0 a0_1 l0_2 l0_3).bind fun t309 => (if t309 = true then ((impl_ParOk.f a1_0 a1_1 a1_2 a1_3).bind fun t310 => (if t310 = true then ((impl_TilesOf.f k a0_0 a0_1 l0_2 l0_3).bind fun t311 => ((impl_within.f a2_0 0 (wrap64 (t311 - 1))).bind fun t312 => (if t312 = true then (if 0 ≤ a0_1 then ((impl_within.f a2_1 0 (wrap64 ((shl .i64 1 a0_1) - 1))).bind fun t313 => (if t313 = true then ((impl_within.f a2_2 0 40).bind fun t314 => (some t314)) else (some false))) else (none)) else (some false)))) else (some false))) else (some false))
theorem impl_HeadOk.mono : ∀ a0 a1 a2 a3 a4 a5 a6 a7 a8 a9 a10 k, LeO (impl_HeadOk.f k a0 a1 a2 a3 a4 a5 a6 a7 a8 a9 a10) (impl_HeadOk.f (k + 1) a0 a1 a2 a3 a4 a5 a6 a7 a8 a9 a10) := by
 intro a0 a1 a2 a3 a4 a5 a6 a7 a8 a9 a10 k; unfold impl_HeadOk.f
 repeat' first
   | (with_reducible exact impl_SeqOk.mono _ _ _ _ _)
   | (with_reducible exact impl_TilesOf.mono _ _ _ _ _)
   | (with_reducible exact LeO.refl _)
   | (with_reducible exact LeO.none _)
   | (with_reducible refine LeO.ite ?_ ?_)
   | (with_reducible refine LeO.bind ?_ (fun _ => ?_))
   | exact impl_SeqOk.mono _ _ _ _ _
   | exact impl_TilesOf.mono _ _ _ _ _
   | exact LeO.none _
   | refine LeO.ite ?_ ?_
   | refine LeO.bind ?_ (fun _ => ?_)
def impl_HeadOk.T1 : Bool × List (List Nat × List Nat) := (true, [([], []), ([0], [0]), ([1, 1], [1]), ([2], [2]), ([3, 2, 2], [2, 3]), ([2, 4], [2, 4]), ([5, 4], [5]), ([6], [6]), ([7, 6], [6, 7]), ([6], [6]), ([9, 6, 6], [6, 9]), ([10, 6], [6, 10]), ([8, 11, 10, 6], [6, 8, 11]), ([6, 12], [6, 12]), ([13, 12], [13]), ([14], [14]), ([15, 14], [14, 15]), ([14], [14]), ([17, 14], [14, 17]), ([18, 14], [14, 18]), ([19, 14], [14, 19]), ([16, 20, 14, 14], [14, 16, 20]), ([14, 21], [14, 21]), ([22, 21], [22]), ([23], [23]), ([24, 23], [23, 24]), ([25, 23, 23], [23, 25]), ([23, 26], [23, 26]), ([27, 26, 0, 1, 2, 3, 4, 5, 6, 7, 8, 9, 10, 11, 12, 13, 14, 15, 16, 17, 18, 19, 20, 21, 22, 23, 24, 25, 26, 27], [27])])
def impl_HeadOk.B1 : List Nat := [0, 1, 3, 7, 15, 31, 63, 127, 255, 127, 639, 1663, 4095, 8191, 16383, 32767, 65535, 32767, 163839, 425983, 950271, 2097151, 4194303, 8388607, 16777215, 33554431, 67108863, 134217727, 268435455]
theorem impl_HeadOk.tab1 : rtab .any (opsOf Try.f238 1) = impl_HeadOk.T1 := by kernel_rfl
theorem impl_HeadOk.bits1 : waitsOk impl_HeadOk.T1.2 impl_HeadOk.B1 = true := by kernel_rfl
set_option maxHeartbeats 8000000 in
set_option maxRecDepth 100000 in
theorem impl_HeadOk.calls (k : Nat) (a0_0 : Int) (a0_1 : Int) (A0_2 : Option Addr) (c0_2 : Nat) (l0_2 : List Int) (A0_3 : Option Addr) (c0_3 : Nat) (l0_3 : List Int) (a1_0 : Int) (a1_1 : Bool) (a1_2 : Bool) (a1_3 : Bool) (a2_0 : Int) (a2_1 : Int) (a2_2 : Int) (r : Bool) (w : World) (hr0_2 : Kd.C (Kd.int .i64) w A0_2 l0_2.length l0_2) (hc0_2 : l0_2.length ≤ c0_2) (hr0_3 : Kd.C (Kd.int .i64) w A0_3 l0_3.length l0_3) (hc0_3 : l0_3.length ≤ c0_3) (h : impl_HeadOk.f k a0_0 a0_1 l0_2 l0_3 a1_0 a1_1 a1_2 a1_3 a2_0 a2_1 a2_2 = some r) :
  Calls Try.prog 238 #[.agg #[.int .i64 a0_0, .int .i64 a0_1, .slice A0_2 l0_2.length c0_2, .slice A0_3 l0_3.length c0_3], .agg #[.int .i64 a1_0, .bool a1_1, .bool a1_2, .bool a1_3], .agg #[.int .i64 a2_0, .int .i64 a2_1, .int .i64 a2_2]] w fun e w' => e = .returned (.bool r) ∧ Below w.heap.size w w' := by
 have hu33 := Try.underlying33; have hu35 := Try.underlying35; have hu135 := Try.underlying135; have HR0_2 := Aside0.mk hr0_2; have HC0_2 := Aside0.mk hc0_2; clear hr0_2 hc0_2; have HR0_3 := Aside0.mk hr0_3; have HC0_3 := Aside0.mk hc0_3; clear hr0_3 hc0_3; have HB := Aside0.mk (Below.refl w.heap.size w); have H : ((impl_SeqOk.f k a0_0 a0_1 l0_2 l0_3).bind fun t309 => (if t309 = true then ((impl_ParOk.f a1_0 a1_1 a1_2 a1_3).bind fun t310 => (if t310 = true then ((impl_TilesOf.f k a0_0 a0_1 l0_2 l0_3).bind fun t311 => ((impl_within.f a2_0 0 (wrap64 (t311 - 1))).bind fun t312 => (if t312 = true then (if 0 ≤ a0_1 then ((impl_within.f a2_1 0 (wrap64 ((shl .i64 1 a0_1) - 1))).bind fun t313 => (if t313 = true then ((impl_within.f a2_2 0 40).bind fun t314 => (some t314)) else (some false))) else (none)) else (some false)))) else (some false))) else (some false))) = some r := h; clear h; replace H := Option.bind_eq_some_iff.mp H; obtain ⟨t309, A40, H⟩ := H; try dsimp only at H
 have A4 := Aside0.mk A40; clear A40; by_cases c5 : t309 = true
 ·subst c5
  rw [if_pos rfl] at H; replace H := Option.bind_eq_some_iff.mp H; obtain ⟨t310, A60, H⟩ := H; try dsimp only at H
  have A6 := Aside0.mk A60; clear A60; by_cases c7 : t310 = true
  ·subst c7
   rw [if_pos rfl] at H; replace H := Option.bind_eq_some_iff.mp H; obtain ⟨t311, A80, H⟩ := H; try dsimp only at H
   have A8 := Aside0.mk A80; clear A80; replace H := Option.bind_eq_some_iff.mp H; obtain ⟨t312, A90, H⟩ := H; try dsimp only at H
   have A9 := Aside0.mk A90; clear A90; by_cases c10 : t312 = true
   ·subst c10
    rw [if_pos rfl] at H; by_cases c11 : 0 ≤ a0_1
    ·rw [if_pos c11] at H
     have c11b0 := eq_true c11; have c11b1 : decide (0 ≤ a0_1) = true := decide_eq_true c11; clear c11; obtain ⟨ji12, hji12⟩ : ∃ j_ : Int, (shl .i64 1 a0_1) = j_ := ⟨_, rfl⟩; (first | rw [hji12] at H | simp only [hji12] at H); (try rw [hji12] at A4); (try rw [hji12] at A6); (try rw [hji12] at A8); (try rw [hji12] at A9); have hji12_ : (IntKind.i64.wrap (1 * 2 ^ min a0_1.toNat 64)) = ji12 := hji12; have hji12z : a0_1 ≤ 64 → (IntKind.i64.wrap (1 * 2 ^ a0_1.toNat)) = ji12 := shl_small hji12; have hji12u : (IntKind.i64.wrap (2 ^ min a0_1.toNat 64)) = ji12 := by have h_ := hji12_; rw [Int.one_mul] at h_; exact h_
     have hji12v : a0_1 ≤ 64 → (IntKind.i64.wrap (2 ^ a0_1.toNat)) = ji12 := fun hle_ => by have h_ := hji12z hle_; rw [Int.one_mul] at h_; exact h_
     have hji12y : (wrap64 (1 * 2 ^ min a0_1.toNat 64)) = ji12 := (i64_w _).symm.trans hji12_; have hji12x : a0_1 ≤ 64 → (wrap64 (1 * 2 ^ a0_1.toNat)) = ji12 := fun h_ => (i64_w _).symm.trans (hji12z h_)
     replace H := Option.bind_eq_some_iff.mp H; obtain ⟨t313, A130, H⟩ := H; try dsimp only at H
     have A13 := Aside0.mk A130; clear A130; by_cases c14 : t313 = true
     ·subst c14
      rw [if_pos rfl] at H; replace H := Option.bind_eq_some_iff.mp H; obtain ⟨t314, A150, H⟩ := H; try dsimp only at H
      have A15 := Aside0.mk A150; clear A150; obtain rfl := Option.some.inj H; go_enter Try.func238, Try.ntmps238; try go_wp2_with (first | ((with_reducible refine gate_dst (N := 3) rfl ?_); refine bx_ (N := 3) (cs := #[.int .i64 a0_0, .int .i64 a0_1, .slice A0_2 l0_2.length c0_2, .slice A0_3 l0_3.length c0_3]) (t := 33) ?_; intro gb306 hg w16 hbox hb; have BK306 := Aside0.mk (hbox); have GW306 := gw_ hg hb_; have GE306 := gw_ hg hb_; replace HB := Aside0.mk (below_step hb_ hb); clear hb hbox hg) | ((with_reducible refine gate_dst (N := 4) rfl ?_); refine bx_ (N := 4) (cs := #[.int .i64 a1_0, .bool a1_1, .bool a1_2, .bool a1_3]) (t := 35) ?_; intro gb307 hg w17 hbox hb; have BK307 := Aside0.mk (hbox); have GW307 := gw_ hg hb_; have GE307 := gw_ hg hb_; replace HB := Aside0.mk (below_step hb_ hb); obtain ⟨NB306_307, NB307_306, BK306⟩ := nb_ hg hb BK306; clear hb hbox hg) | ((with_reducible refine gate_dst (N := 5) rfl ?_); refine bx_ (N := 5) (cs := #[.int .i64 a2_0, .int .i64 a2_1, .int .i64 a2_2]) (t := 135) ?_; intro gb308 hg w18 hbox hb; have BK308 := Aside0.mk (hbox); have GW308 := gw_ hg hb_; have GE308 := gw_ hg hb_; replace HB := Aside0.mk (below_step hb_ hb); obtain ⟨NB306_308, NB308_306, BK306⟩ := nb_ hg hb BK306; obtain ⟨NB307_308, NB308_307, BK307⟩ := nb_ hg hb BK307; clear hb hbox hg))
      replace BK306 := Aside0.mk (blk_drew BK306.out); replace BK307 := Aside0.mk (blk_drew BK307.out); replace BK308 := Aside0.mk (blk_drew BK308.out); replace HB := Aside0.mk (below_drew1 HB.out); refine start_ (n := 29) (S := fun w' => w'.cell? ⟨gb306, 0, none⟩ = some (.int .i64 a0_0) ∧ w'.cell? ⟨gb306, 1, none⟩ = some (.int .i64 a0_1) ∧ w'.cell? ⟨gb306, 2, none⟩ = some (.slice A0_2 l0_2.length c0_2) ∧ w'.cell? ⟨gb306, 3, none⟩ = some (.slice A0_3 l0_3.length c0_3) ∧ w'.cell? ⟨gb307, 0, none⟩ = some (.int .i64 a1_0) ∧ w'.cell? ⟨gb307, 1, none⟩ = some (.bool a1_1) ∧ w'.cell? ⟨gb307, 2, none⟩ = some (.bool a1_2) ∧ w'.cell? ⟨gb307, 3, none⟩ = some (.bool a1_3) ∧ w'.cell? ⟨gb308, 0, none⟩ = some (.int .i64 a2_0) ∧ w'.cell? ⟨gb308, 1, none⟩ = some (.int .i64 a2_1) ∧ w'.cell? ⟨gb308, 2, none⟩ = some (.int .i64 a2_2)) (ds := []) u29_0 (by kernel_rfl) rfl rfl ⟨(blk_cell BK306.out 0).trans rfl, (blk_cell BK306.out 1).trans rfl, (blk_cell BK306.out 2).trans rfl, (blk_cell BK306.out 3).trans rfl, (blk_cell BK307.out 0).trans rfl, (blk_cell BK307.out 1).trans rfl, (blk_cell BK307.out 2).trans rfl, (blk_cell BK307.out 3).trans rfl, (blk_cell BK308.out 0).trans rfl, (blk_cell BK308.out 1).trans rfl, (blk_cell BK308.out 2).trans rfl⟩ (fun hHeld => ?_); refine with_tabW impl_HeadOk.tab1 impl_HeadOk.bits1 (fun HT_ HW_ => ?_); generalize w18.drew = w19 at BK306 BK307 BK308 HB hHeld ⊢
      refine take_ (i := 0) (N := some 7) (v := ?_) (a' := ?_) u29_1 rfl rfl (take_ofW HT_.out HW_.out (by kernel_rfl)) (fun _ _ _ h => h) (Or.inl ⟨(by rfl), ?_⟩) hHeld ?_ ?_; rotate_left
      ·rintro w' ⟨s0, s1, s2, s3, s4, s5, s6, s7, s8, s9, s10⟩
       go_simp; with_reducible rfl
      rotate_left
      ·simp only [Act.put, List.setIfInBounds_toArray, List.set_cons_zero, List.set_cons_succ, i64_w, i32_w]
       rfl
      refine one_ (i := 1) (N := some 8) u29_2 rfl rfl (one_of HT_.out (by kernel_rfl)) (by decide) (fun K hK => ?_); refine goes_ Try.func77 (by kernel_rfl) rfl #[.agg #[.int .i64 a0_0, .int .i64 a0_1, .slice A0_2 l0_2.length c0_2, .slice A0_3 l0_3.length c0_3]] (by rfl) rfl rfl Bf_4 ?_; with_reducible refine (impl_SeqOk.calls k a0_0 a0_1 _ _ l0_2 _ _ l0_3 true _ ?side1 ?side2 ?side3 ?side4 A4.out).mono ?_
      (case side1 => repeat (first | exact (Kd.C_below HR0_2.out HB.out) | (with_reducible refine Kd.C_alloc ?_ _) | (with_reducible refine Kd.C_drewN ?_ _) | (with_reducible refine Kd.C_drew ?_))); (case side2 => exact HC0_2.out); (case side3 => repeat (first | exact (Kd.C_below HR0_3.out HB.out) | (with_reducible refine Kd.C_alloc ?_ _) | (with_reducible refine Kd.C_drewN ?_ _) | (with_reducible refine Kd.C_drew ?_))); (case side4 => exact HC0_3.out); rintro e w20 ⟨rfl, hb⟩; refine ⟨_, rfl, ?_⟩; replace BK306 := bb_ BK306 hb; replace BK307 := bb_ BK307 hb; replace BK308 := bb_ BK308 hb; replace HB := Aside0.mk (below_step hb_ hb); (try clear hb); (try clear hb2); (try clear hk); (try clear hi); refine hK.out _ _ Bf_0 (fun hHeld => ?_); clear hK K; refine no_ ?_; refine pu_ HT_.out 2 (some 9) u29_3 ?_; refine take_ (i := 3) (N := some 10) (v := ?_) (a' := ?_) u29_4 rfl rfl (take_ofW HT_.out HW_.out (by kernel_rfl)) (fun _ _ _ h => h) (Or.inl ⟨(by rfl), ?_⟩) hHeld ?_ ?_; rotate_left
      ·rintro w' ⟨s0, s1, s2, s3, s4, s5, s6, s7, s8, s9, s10⟩
       go_simp; with_reducible rfl
      rotate_left
      ·simp only [Act.put, List.setIfInBounds_toArray, List.set_cons_zero, List.set_cons_succ, i64_w, i32_w]
       rfl
      refine one_ (i := 4) (N := some 11) u29_5 rfl rfl (one_of HT_.out (by kernel_rfl)) (by decide) (fun K hK => ?_); refine goes_ Try.func78 (by kernel_rfl) rfl #[.agg #[.int .i64 a1_0, .bool a1_1, .bool a1_2, .bool a1_3]] (by rfl) rfl rfl Bf_4 ?_; with_reducible refine (impl_ParOk.calls a1_0 a1_1 a1_2 a1_3 true _ A6.out).mono ?_
      rintro e w21 ⟨rfl, hb⟩; refine ⟨_, rfl, ?_⟩; replace BK306 := bb_ BK306 hb; replace BK307 := bb_ BK307 hb; replace BK308 := bb_ BK308 hb; replace HB := Aside0.mk (below_step hb_ hb); (try clear hb); (try clear hb2); (try clear hk); (try clear hi); refine hK.out _ _ Bf_0 (fun hHeld => ?_); clear hK K; refine no_ ?_; refine pu_ HT_.out 5 (some 12) u29_6 ?_; refine pu_ HT_.out 6 (some 13) u29_7 ?_; refine pu_ HT_.out 7 (some 14) u29_8 ?_; refine take_ (i := 8) (N := some 15) (v := ?_) (a' := ?_) u29_9 rfl rfl (take_ofW HT_.out HW_.out (by kernel_rfl)) (fun _ _ _ h => h) (Or.inl ⟨(by rfl), ?_⟩) hHeld ?_ ?_; rotate_left
      ·rintro w' ⟨s0, s1, s2, s3, s4, s5, s6, s7, s8, s9, s10⟩
       go_simp; with_reducible rfl
      rotate_left
      ·simp only [Act.put, List.setIfInBounds_toArray, List.set_cons_zero, List.set_cons_succ, i64_w, i32_w]
       rfl
      refine take_ (i := 9) (N := some 16) (v := ?_) (a' := ?_) u29_10 rfl rfl (take_ofW HT_.out HW_.out (by kernel_rfl)) (fun _ _ _ h => h) (Or.inl ⟨(by rfl), ?_⟩) hHeld ?_ ?_; rotate_left
      ·rintro w' ⟨s0, s1, s2, s3, s4, s5, s6, s7, s8, s9, s10⟩
       go_simp; with_reducible rfl
      rotate_left
      ·simp only [Act.put, List.setIfInBounds_toArray, List.set_cons_zero, List.set_cons_succ, i64_w, i32_w]
       rfl
      refine one_ (i := 10) (N := some 17) u29_11 rfl rfl (one_of HT_.out (by kernel_rfl)) (by decide) (fun K hK => ?_); refine goes_ Try.func79 (by kernel_rfl) rfl #[.agg #[.int .i64 a0_0, .int .i64 a0_1, .slice A0_2 l0_2.length c0_2, .slice A0_3 l0_3.length c0_3]] (by rfl) rfl rfl Bf_4 ?_; with_reducible refine (impl_TilesOf.calls k a0_0 a0_1 _ _ l0_2 _ _ l0_3 t311 _ ?side1 ?side2 ?side3 ?side4 A8.out).mono ?_
      (case side1 => repeat (first | exact (Kd.C_below HR0_2.out HB.out) | (with_reducible refine Kd.C_alloc ?_ _) | (with_reducible refine Kd.C_drewN ?_ _) | (with_reducible refine Kd.C_drew ?_))); (case side2 => exact HC0_2.out); (case side3 => repeat (first | exact (Kd.C_below HR0_3.out HB.out) | (with_reducible refine Kd.C_alloc ?_ _) | (with_reducible refine Kd.C_drewN ?_ _) | (with_reducible refine Kd.C_drew ?_))); (case side4 => exact HC0_3.out); rintro e w22 ⟨rfl, hb⟩; refine ⟨_, rfl, ?_⟩; replace BK306 := bb_ BK306 hb; replace BK307 := bb_ BK307 hb; replace BK308 := bb_ BK308 hb; replace HB := Aside0.mk (below_step hb_ hb); (try clear hb); (try clear hb2); (try clear hk); (try clear hi); refine hK.out _ _ Bf_0 (fun hHeld => ?_); clear hK K; refine no_ ?_; refine pu_ HT_.out 11 (some 18) u29_12 ?_; refine one_ (i := 12) (N := some 19) u29_13 rfl rfl (one_of HT_.out (by kernel_rfl)) (by decide) (fun K hK => ?_); refine goes_ Try.func112 (by kernel_rfl) rfl #[.int .i64 a2_0, .int .i64 0, .int .i64 (wrap64 (t311 - 1))] (by rfl) rfl rfl Bf_4 ?_; with_reducible refine (impl_within.calls a2_0 0 (wrap64 (t311 - 1)) true _ A9.out).mono ?_
      rintro e w' ⟨rfl, ⟨nd, rfl⟩⟩; refine ⟨_, rfl, ?_⟩; refine hK.out _ _ Bf_0 (fun hHeld => ?_); clear hK K; refine no_ ?_; refine pu_ HT_.out 13 (some 20) u29_14 ?_; refine pu_ HT_.out 14 (some 21) u29_15 ?_; refine pu_ HT_.out 15 (some 22) u29_16 ?_; refine pu_ HT_.out 17 (some 24) u29_1fffe800x ?_; refine take_ (i := 16) (N := some 23) (v := ?_) (a' := ?_) u29_18 rfl rfl (take_ofW HT_.out HW_.out (by kernel_rfl)) (fun _ _ _ h => h) (Or.inl ⟨(by rfl), ?_⟩) hHeld ?_ ?_; rotate_left
      ·rintro w' ⟨s0, s1, s2, s3, s4, s5, s6, s7, s8, s9, s10⟩
       go_simp; with_reducible rfl
      rotate_left
      ·simp only [Act.put, List.setIfInBounds_toArray, List.set_cons_zero, List.set_cons_succ, i64_w, i32_w]
       rfl
      refine take_ (i := 18) (N := some 25) (v := ?_) (a' := ?_) u29_19 rfl rfl (take_ofW HT_.out HW_.out (by kernel_rfl)) (fun _ _ _ h => h) (Or.inl ⟨(by rfl), ?_⟩) hHeld ?_ ?_; rotate_left
      ·rintro w' ⟨s0, s1, s2, s3, s4, s5, s6, s7, s8, s9, s10⟩
       go_simp; with_reducible rfl
      rotate_left
      ·simp only [Act.put, List.setIfInBounds_toArray, List.set_cons_zero, List.set_cons_succ, i64_w, i32_w]
       rfl
      refine pu_ HT_.out 19 (some 26) u29_20 ?_; refine pu_ HT_.out 20 (some 27) u29_21 ?_; refine one_ (i := 21) (N := some 28) u29_22 rfl rfl (one_of HT_.out (by kernel_rfl)) (by decide) (fun K hK => ?_); refine goes_ Try.func112 (by kernel_rfl) rfl #[.int .i64 a2_1, .int .i64 0, .int .i64 (wrap64 ((ji12) - 1))] (by rfl) rfl rfl Bf_11 ?_; with_reducible refine (impl_within.calls a2_1 0 (wrap64 ((ji12) - 1)) true _ A13.out).mono ?_
      rintro e w' ⟨rfl, ⟨nd, rfl⟩⟩; refine ⟨_, rfl, ?_⟩; refine hK.out _ _ Bf_0 (fun hHeld => ?_); clear hK K; refine no_ ?_; refine pu_ HT_.out 22 (some 29) u29_23 ?_; refine pu_ HT_.out 23 (some 30) u29_24 ?_; refine pu_ HT_.out 24 (some 31) u29_25 ?_; refine take_ (i := 25) (N := some 32) (v := ?_) (a' := ?_) u29_26 rfl rfl (take_ofW HT_.out HW_.out (by kernel_rfl)) (fun _ _ _ h => h) (Or.inl ⟨(by rfl), ?_⟩) hHeld ?_ ?_; rotate_left
      ·rintro w' ⟨s0, s1, s2, s3, s4, s5, s6, s7, s8, s9, s10⟩
       go_simp; with_reducible rfl
      rotate_left
      ·simp only [Act.put, List.setIfInBounds_toArray, List.set_cons_zero, List.set_cons_succ, i64_w, i32_w]
       rfl
      refine one_ (i := 26) (N := some 33) u29_27 rfl rfl (one_of HT_.out (by kernel_rfl)) (by decide) (fun K hK => ?_); refine goes_ Try.func112 (by kernel_rfl) rfl #[.int .i64 a2_2, .int .i64 0, .int .i64 40] (by rfl) rfl rfl Bf_4 ?_; with_reducible refine (impl_within.calls a2_2 0 40 t314 _ A15.out).mono ?_
      rintro e w' ⟨rfl, ⟨nd, rfl⟩⟩; refine ⟨_, rfl, ?_⟩; refine hK.out _ _ Bf_0 (fun hHeld => ?_); clear hK K; refine no_ ?_; refine pu_ HT_.out 27 (some 34) u29_28 ?_; refine pu_ HT_.out 28 (some 6) u29_29 ?_; refine done_ (done_of HT_.out (by kernel_rfl)) ?_; try go_wp2
      go_ret; exact ⟨Bf_10, hb_⟩
     ·replace c14 := Bool.eq_false_iff.mpr c14
      subst c14; rw [if_neg (show ¬ (false = true) by decide)] at H; obtain rfl := Option.some.inj H; go_enter Try.func238, Try.ntmps238; try go_wp2_with (first | ((with_reducible refine gate_dst (N := 3) rfl ?_); refine bx_ (N := 3) (cs := #[.int .i64 a0_0, .int .i64 a0_1, .slice A0_2 l0_2.length c0_2, .slice A0_3 l0_3.length c0_3]) (t := 33) ?_; intro gb306 hg w23 hbox hb; have BK306 := Aside0.mk (hbox); have GW306 := gw_ hg hb_; have GE306 := gw_ hg hb_; replace HB := Aside0.mk (below_step hb_ hb); clear hb hbox hg) | ((with_reducible refine gate_dst (N := 4) rfl ?_); refine bx_ (N := 4) (cs := #[.int .i64 a1_0, .bool a1_1, .bool a1_2, .bool a1_3]) (t := 35) ?_; intro gb307 hg w24 hbox hb; have BK307 := Aside0.mk (hbox); have GW307 := gw_ hg hb_; have GE307 := gw_ hg hb_; replace HB := Aside0.mk (below_step hb_ hb); obtain ⟨NB306_307, NB307_306, BK306⟩ := nb_ hg hb BK306; clear hb hbox hg) | ((with_reducible refine gate_dst (N := 5) rfl ?_); refine bx_ (N := 5) (cs := #[.int .i64 a2_0, .int .i64 a2_1, .int .i64 a2_2]) (t := 135) ?_; intro gb308 hg w25 hbox hb; have BK308 := Aside0.mk (hbox); have GW308 := gw_ hg hb_; have GE308 := gw_ hg hb_; replace HB := Aside0.mk (below_step hb_ hb); obtain ⟨NB306_308, NB308_306, BK306⟩ := nb_ hg hb BK306; obtain ⟨NB307_308, NB308_307, BK307⟩ := nb_ hg hb BK307; clear hb hbox hg))
      replace BK306 := Aside0.mk (blk_drew BK306.out); replace BK307 := Aside0.mk (blk_drew BK307.out); replace BK308 := Aside0.mk (blk_drew BK308.out); replace HB := Aside0.mk (below_drew1 HB.out); refine start_ (n := 29) (S := fun w' => w'.cell? ⟨gb306, 0, none⟩ = some (.int .i64 a0_0) ∧ w'.cell? ⟨gb306, 1, none⟩ = some (.int .i64 a0_1) ∧ w'.cell? ⟨gb306, 2, none⟩ = some (.slice A0_2 l0_2.length c0_2) ∧ w'.cell? ⟨gb306, 3, none⟩ = some (.slice A0_3 l0_3.length c0_3) ∧ w'.cell? ⟨gb307, 0, none⟩ = some (.int .i64 a1_0) ∧ w'.cell? ⟨gb307, 1, none⟩ = some (.bool a1_1) ∧ w'.cell? ⟨gb307, 2, none⟩ = some (.bool a1_2) ∧ w'.cell? ⟨gb307, 3, none⟩ = some (.bool a1_3) ∧ w'.cell? ⟨gb308, 0, none⟩ = some (.int .i64 a2_0) ∧ w'.cell? ⟨gb308, 1, none⟩ = some (.int .i64 a2_1) ∧ w'.cell? ⟨gb308, 2, none⟩ = some (.int .i64 a2_2)) (ds := []) u29_0 (by kernel_rfl) rfl rfl ⟨(blk_cell BK306.out 0).trans rfl, (blk_cell BK306.out 1).trans rfl, (blk_cell BK306.out 2).trans rfl, (blk_cell BK306.out 3).trans rfl, (blk_cell BK307.out 0).trans rfl, (blk_cell BK307.out 1).trans rfl, (blk_cell BK307.out 2).trans rfl, (blk_cell BK307.out 3).trans rfl, (blk_cell BK308.out 0).trans rfl, (blk_cell BK308.out 1).trans rfl, (blk_cell BK308.out 2).trans rfl⟩ (fun hHeld => ?_); refine with_tabW impl_HeadOk.tab1 impl_HeadOk.bits1 (fun HT_ HW_ => ?_); generalize w25.drew = w26 at BK306 BK307 BK308 HB hHeld ⊢
      refine take_ (i := 0) (N := some 7) (v := ?_) (a' := ?_) u29_1 rfl rfl (take_ofW HT_.out HW_.out (by kernel_rfl)) (fun _ _ _ h => h) (Or.inl ⟨(by rfl), ?_⟩) hHeld ?_ ?_; rotate_left
      ·rintro w' ⟨s0, s1, s2, s3, s4, s5, s6, s7, s8, s9, s10⟩
       go_simp; with_reducible rfl
      rotate_left
      ·simp only [Act.put, List.setIfInBounds_toArray, List.set_cons_zero, List.set_cons_succ, i64_w, i32_w]
       rfl
      refine one_ (i := 1) (N := some 8) u29_2 rfl rfl (one_of HT_.out (by kernel_rfl)) (by decide) (fun K hK => ?_); refine goes_ Try.func77 (by kernel_rfl) rfl #[.agg #[.int .i64 a0_0, .int .i64 a0_1, .slice A0_2 l0_2.length c0_2, .slice A0_3 l0_3.length c0_3]] (by rfl) rfl rfl Bf_4 ?_; with_reducible refine (impl_SeqOk.calls k a0_0 a0_1 _ _ l0_2 _ _ l0_3 true _ ?side1 ?side2 ?side3 ?side4 A4.out).mono ?_
      (case side1 => repeat (first | exact (Kd.C_below HR0_2.out HB.out) | (with_reducible refine Kd.C_alloc ?_ _) | (with_reducible refine Kd.C_drewN ?_ _) | (with_reducible refine Kd.C_drew ?_))); (case side2 => exact HC0_2.out); (case side3 => repeat (first | exact (Kd.C_below HR0_3.out HB.out) | (with_reducible refine Kd.C_alloc ?_ _) | (with_reducible refine Kd.C_drewN ?_ _) | (with_reducible refine Kd.C_drew ?_))); (case side4 => exact HC0_3.out); rintro e w27 ⟨rfl, hb⟩; refine ⟨_, rfl, ?_⟩; replace BK306 := bb_ BK306 hb; replace BK307 := bb_ BK307 hb; replace BK308 := bb_ BK308 hb; replace HB := Aside0.mk (below_step hb_ hb); (try clear hb); (try clear hb2); (try clear hk); (try clear hi); refine hK.out _ _ Bf_0 (fun hHeld => ?_); clear hK K; refine no_ ?_; refine pu_ HT_.out 2 (some 9) u29_3 ?_; refine take_ (i := 3) (N := some 10) (v := ?_) (a' := ?_) u29_4 rfl rfl (take_ofW HT_.out HW_.out (by kernel_rfl)) (fun _ _ _ h => h) (Or.inl ⟨(by rfl), ?_⟩) hHeld ?_ ?_; rotate_left
      ·rintro w' ⟨s0, s1, s2, s3, s4, s5, s6, s7, s8, s9, s10⟩
       go_simp; with_reducible rfl
      rotate_left
      ·simp only [Act.put, List.setIfInBounds_toArray, List.set_cons_zero, List.set_cons_succ, i64_w, i32_w]
       rfl
      refine one_ (i := 4) (N := some 11) u29_5 rfl rfl (one_of HT_.out (by kernel_rfl)) (by decide) (fun K hK => ?_); refine goes_ Try.func78 (by kernel_rfl) rfl #[.agg #[.int .i64 a1_0, .bool a1_1, .bool a1_2, .bool a1_3]] (by rfl) rfl rfl Bf_4 ?_; with_reducible refine (impl_ParOk.calls a1_0 a1_1 a1_2 a1_3 true _ A6.out).mono ?_
      rintro e w28 ⟨rfl, hb⟩; refine ⟨_, rfl, ?_⟩; replace BK306 := bb_ BK306 hb; replace BK307 := bb_ BK307 hb; replace BK308 := bb_ BK308 hb; replace HB := Aside0.mk (below_step hb_ hb); (try clear hb); (try clear hb2); (try clear hk); (try clear hi); refine hK.out _ _ Bf_0 (fun hHeld => ?_); clear hK K; refine no_ ?_; refine pu_ HT_.out 5 (some 12) u29_6 ?_; refine pu_ HT_.out 6 (some 13) u29_7 ?_; refine pu_ HT_.out 7 (some 14) u29_8 ?_; refine take_ (i := 8) (N := some 15) (v := ?_) (a' := ?_) u29_9 rfl rfl (take_ofW HT_.out HW_.out (by kernel_rfl)) (fun _ _ _ h => h) (Or.inl ⟨(by rfl), ?_⟩) hHeld ?_ ?_; rotate_left
      ·rintro w' ⟨s0, s1, s2, s3, s4, s5, s6, s7, s8, s9, s10⟩
       go_simp; with_reducible rfl
      rotate_left
      ·simp only [Act.put, List.setIfInBounds_toArray, List.set_cons_zero, List.set_cons_succ, i64_w, i32_w]
       rfl
      refine take_ (i := 9) (N := some 16) (v := ?_) (a' := ?_) u29_10 rfl rfl (take_ofW HT_.out HW_.out (by kernel_rfl)) (fun _ _ _ h => h) (Or.inl ⟨(by rfl), ?_⟩) hHeld ?_ ?_; rotate_left
      ·rintro w' ⟨s0, s1, s2, s3, s4, s5, s6, s7, s8, s9, s10⟩
       go_simp; with_reducible rfl
      rotate_left
      ·simp only [Act.put, List.setIfInBounds_toArray, List.set_cons_zero, List.set_cons_succ, i64_w, i32_w]
       rfl
      refine one_ (i := 10) (N := some 17) u29_11 rfl rfl (one_of HT_.out (by kernel_rfl)) (by decide) (fun K hK => ?_); refine goes_ Try.func79 (by kernel_rfl) rfl #[.agg #[.int .i64 a0_0, .int .i64 a0_1, .slice A0_2 l0_2.length c0_2, .slice A0_3 l0_3.length c0_3]] (by rfl) rfl rfl Bf_4 ?_; with_reducible refine (impl_TilesOf.calls k a0_0 a0_1 _ _ l0_2 _ _ l0_3 t311 _ ?side1 ?side2 ?side3 ?side4 A8.out).mono ?_
      (case side1 => repeat (first | exact (Kd.C_below HR0_2.out HB.out) | (with_reducible refine Kd.C_alloc ?_ _) | (with_reducible refine Kd.C_drewN ?_ _) | (with_reducible refine Kd.C_drew ?_))); (case side2 => exact HC0_2.out); (case side3 => repeat (first | exact (Kd.C_below HR0_3.out HB.out) | (with_reducible refine Kd.C_alloc ?_ _) | (with_reducible refine Kd.C_drewN ?_ _) | (with_reducible refine Kd.C_drew ?_))); (case side4 => exact HC0_3.out); rintro e w29 ⟨rfl, hb⟩; refine ⟨_, rfl, ?_⟩; replace BK306 := bb_ BK306 hb; replace BK307 := bb_ BK307 hb; replace BK308 := bb_ BK308 hb; replace HB := Aside0.mk (below_step hb_ hb); (try clear hb); (try clear hb2); (try clear hk); (try clear hi); refine hK.out _ _ Bf_0 (fun hHeld => ?_); clear hK K; refine no_ ?_; refine pu_ HT_.out 11 (some 18) u29_12 ?_; refine one_ (i := 12) (N := some 19) u29_13 rfl rfl (one_of HT_.out (by kernel_rfl)) (by decide) (fun K hK => ?_); refine goes_ Try.func112 (by kernel_rfl) rfl #[.int .i64 a2_0, .int .i64 0, .int .i64 (wrap64 (t311 - 1))] (by rfl) rfl rfl Bf_4 ?_; with_reducible refine (impl_within.calls a2_0 0 (wrap64 (t311 - 1)) true _ A9.out).mono ?_
      rintro e w' ⟨rfl, ⟨nd, rfl⟩⟩; refine ⟨_, rfl, ?_⟩; refine hK.out _ _ Bf_0 (fun hHeld => ?_); clear hK K; refine no_ ?_; refine pu_ HT_.out 13 (some 20) u29_14 ?_; refine pu_ HT_.out 14 (some 21) u29_15 ?_; refine pu_ HT_.out 15 (some 22) u29_16 ?_; refine pu_ HT_.out 17 (some 24) u29_1fffe800x ?_; refine take_ (i := 16) (N := some 23) (v := ?_) (a' := ?_) u29_18 rfl rfl (take_ofW HT_.out HW_.out (by kernel_rfl)) (fun _ _ _ h => h) (Or.inl ⟨(by rfl), ?_⟩) hHeld ?_ ?_; rotate_left
      ·rintro w' ⟨s0, s1, s2, s3, s4, s5, s6, s7, s8, s9, s10⟩
       go_simp; with_reducible rfl
      rotate_left
      ·simp only [Act.put, List.setIfInBounds_toArray, List.set_cons_zero, List.set_cons_succ, i64_w, i32_w]
       rfl
      refine take_ (i := 18) (N := some 25) (v := ?_) (a' := ?_) u29_19 rfl rfl (take_ofW HT_.out HW_.out (by kernel_rfl)) (fun _ _ _ h => h) (Or.inl ⟨(by rfl), ?_⟩) hHeld ?_ ?_; rotate_left
      ·rintro w' ⟨s0, s1, s2, s3, s4, s5, s6, s7, s8, s9, s10⟩
       go_simp; with_reducible rfl
      rotate_left
      ·simp only [Act.put, List.setIfInBounds_toArray, List.set_cons_zero, List.set_cons_succ, i64_w, i32_w]
       rfl
      refine pu_ HT_.out 19 (some 26) u29_20 ?_; refine pu_ HT_.out 20 (some 27) u29_21 ?_; refine one_ (i := 21) (N := some 28) u29_22 rfl rfl (one_of HT_.out (by kernel_rfl)) (by decide) (fun K hK => ?_); refine goes_ Try.func112 (by kernel_rfl) rfl #[.int .i64 a2_1, .int .i64 0, .int .i64 (wrap64 ((ji12) - 1))] (by rfl) rfl rfl Bf_11 ?_; with_reducible refine (impl_within.calls a2_1 0 (wrap64 ((ji12) - 1)) false _ A13.out).mono ?_
      rintro e w' ⟨rfl, ⟨nd, rfl⟩⟩; refine ⟨_, rfl, ?_⟩; refine hK.out _ _ Bf_0 (fun hHeld => ?_); clear hK K; refine no_ ?_; refine pu_ HT_.out 22 (some 29) u29_23 ?_; refine pu_ HT_.out 23 (some 30) u29_24 ?_; refine pz_ HT_.out 24 (some 31) u29_25 ?_; refine pz_ HT_.out 25 (some 32) u29_26 ?_; refine pz_ HT_.out 26 (some 33) u29_27 ?_; refine pu_ HT_.out 27 (some 34) u29_28 ?_; refine pu_ HT_.out 28 (some 6) u29_29 ?_; refine done_ (done_of HT_.out (by kernel_rfl)) ?_; try go_wp2
      go_ret; exact ⟨Bf_10, hb_⟩
    ·rw [if_neg c11] at H
     exact absurd H (by simp)
   ·replace c10 := Bool.eq_false_iff.mpr c10
    subst c10; rw [if_neg (show ¬ (false = true) by decide)] at H; obtain rfl := Option.some.inj H; go_enter Try.func238, Try.ntmps238; try go_wp2_with (first | ((with_reducible refine gate_dst (N := 3) rfl ?_); refine bx_ (N := 3) (cs := #[.int .i64 a0_0, .int .i64 a0_1, .slice A0_2 l0_2.length c0_2, .slice A0_3 l0_3.length c0_3]) (t := 33) ?_; intro gb306 hg w30 hbox hb; have BK306 := Aside0.mk (hbox); have GW306 := gw_ hg hb_; have GE306 := gw_ hg hb_; replace HB := Aside0.mk (below_step hb_ hb); clear hb hbox hg) | ((with_reducible refine gate_dst (N := 4) rfl ?_); refine bx_ (N := 4) (cs := #[.int .i64 a1_0, .bool a1_1, .bool a1_2, .bool a1_3]) (t := 35) ?_; intro gb307 hg w31 hbox hb; have BK307 := Aside0.mk (hbox); have GW307 := gw_ hg hb_; have GE307 := gw_ hg hb_; replace HB := Aside0.mk (below_step hb_ hb); obtain ⟨NB306_307, NB307_306, BK306⟩ := nb_ hg hb BK306; clear hb hbox hg) | ((with_reducible refine gate_dst (N := 5) rfl ?_); refine bx_ (N := 5) (cs := #[.int .i64 a2_0, .int .i64 a2_1, .int .i64 a2_2]) (t := 135) ?_; intro gb308 hg w32 hbox hb; have BK308 := Aside0.mk (hbox); have GW308 := gw_ hg hb_; have GE308 := gw_ hg hb_; replace HB := Aside0.mk (below_step hb_ hb); obtain ⟨NB306_308, NB308_306, BK306⟩ := nb_ hg hb BK306; obtain ⟨NB307_308, NB308_307, BK307⟩ := nb_ hg hb BK307; clear hb hbox hg))
    replace BK306 := Aside0.mk (blk_drew BK306.out); replace BK307 := Aside0.mk (blk_drew BK307.out); replace BK308 := Aside0.mk (blk_drew BK308.out); replace HB := Aside0.mk (below_drew1 HB.out); refine start_ (n := 29) (S := fun w' => w'.cell? ⟨gb306, 0, none⟩ = some (.int .i64 a0_0) ∧ w'.cell? ⟨gb306, 1, none⟩ = some (.int .i64 a0_1) ∧ w'.cell? ⟨gb306, 2, none⟩ = some (.slice A0_2 l0_2.length c0_2) ∧ w'.cell? ⟨gb306, 3, none⟩ = some (.slice A0_3 l0_3.length c0_3) ∧ w'.cell? ⟨gb307, 0, none⟩ = some (.int .i64 a1_0) ∧ w'.cell? ⟨gb307, 1, none⟩ = some (.bool a1_1) ∧ w'.cell? ⟨gb307, 2, none⟩ = some (.bool a1_2) ∧ w'.cell? ⟨gb307, 3, none⟩ = some (.bool a1_3) ∧ w'.cell? ⟨gb308, 0, none⟩ = some (.int .i64 a2_0) ∧ w'.cell? ⟨gb308, 1, none⟩ = some (.int .i64 a2_1) ∧ w'.cell? ⟨gb308, 2, none⟩ = some (.int .i64 a2_2)) (ds := []) u29_0 (by kernel_rfl) rfl rfl ⟨(blk_cell BK306.out 0).trans rfl, (blk_cell BK306.out 1).trans rfl, (blk_cell BK306.out 2).trans rfl, (blk_cell BK306.out 3).trans rfl, (blk_cell BK307.out 0).trans rfl, (blk_cell BK307.out 1).trans rfl, (blk_cell BK307.out 2).trans rfl, (blk_cell BK307.out 3).trans rfl, (blk_cell BK308.out 0).trans rfl, (blk_cell BK308.out 1).trans rfl, (blk_cell BK308.out 2).trans rfl⟩ (fun hHeld => ?_); refine with_tabW impl_HeadOk.tab1 impl_HeadOk.bits1 (fun HT_ HW_ => ?_); generalize w32.drew = w33 at BK306 BK307 BK308 HB hHeld ⊢
    refine take_ (i := 0) (N := some 7) (v := ?_) (a' := ?_) u29_1 rfl rfl (take_ofW HT_.out HW_.out (by kernel_rfl)) (fun _ _ _ h => h) (Or.inl ⟨(by rfl), ?_⟩) hHeld ?_ ?_; rotate_left
    ·rintro w' ⟨s0, s1, s2, s3, s4, s5, s6, s7, s8, s9, s10⟩
     go_simp; with_reducible rfl
    rotate_left
    ·simp only [Act.put, List.setIfInBounds_toArray, List.set_cons_zero, List.set_cons_succ, i64_w, i32_w]
     rfl
    refine one_ (i := 1) (N := some 8) u29_2 rfl rfl (one_of HT_.out (by kernel_rfl)) (by decide) (fun K hK => ?_); refine goes_ Try.func77 (by kernel_rfl) rfl #[.agg #[.int .i64 a0_0, .int .i64 a0_1, .slice A0_2 l0_2.length c0_2, .slice A0_3 l0_3.length c0_3]] (by rfl) rfl rfl Bf_4 ?_; with_reducible refine (impl_SeqOk.calls k a0_0 a0_1 _ _ l0_2 _ _ l0_3 true _ ?side1 ?side2 ?side3 ?side4 A4.out).mono ?_
    (case side1 => repeat (first | exact (Kd.C_below HR0_2.out HB.out) | (with_reducible refine Kd.C_alloc ?_ _) | (with_reducible refine Kd.C_drewN ?_ _) | (with_reducible refine Kd.C_drew ?_))); (case side2 => exact HC0_2.out); (case side3 => repeat (first | exact (Kd.C_below HR0_3.out HB.out) | (with_reducible refine Kd.C_alloc ?_ _) | (with_reducible refine Kd.C_drewN ?_ _) | (with_reducible refine Kd.C_drew ?_))); (case side4 => exact HC0_3.out); rintro e w34 ⟨rfl, hb⟩; refine ⟨_, rfl, ?_⟩; replace BK306 := bb_ BK306 hb; replace BK307 := bb_ BK307 hb; replace BK308 := bb_ BK308 hb; replace HB := Aside0.mk (below_step hb_ hb); (try clear hb); (try clear hb2); (try clear hk); (try clear hi); refine hK.out _ _ Bf_0 (fun hHeld => ?_); clear hK K; refine no_ ?_; refine pu_ HT_.out 2 (some 9) u29_3 ?_; refine take_ (i := 3) (N := some 10) (v := ?_) (a' := ?_) u29_4 rfl rfl (take_ofW HT_.out HW_.out (by kernel_rfl)) (fun _ _ _ h => h) (Or.inl ⟨(by rfl), ?_⟩) hHeld ?_ ?_; rotate_left
    ·rintro w' ⟨s0, s1, s2, s3, s4, s5, s6, s7, s8, s9, s10⟩
     go_simp; with_reducible rfl
    rotate_left
    ·simp only [Act.put, List.setIfInBounds_toArray, List.set_cons_zero, List.set_cons_succ, i64_w, i32_w]
     rfl
    refine one_ (i := 4) (N := some 11) u29_5 rfl rfl (one_of HT_.out (by kernel_rfl)) (by decide) (fun K hK => ?_); refine goes_ Try.func78 (by kernel_rfl) rfl #[.agg #[.int .i64 a1_0, .bool a1_1, .bool a1_2, .bool a1_3]] (by rfl) rfl rfl Bf_4 ?_; with_reducible refine (impl_ParOk.calls a1_0 a1_1 a1_2 a1_3 true _ A6.out).mono ?_
    rintro e w35 ⟨rfl, hb⟩; refine ⟨_, rfl, ?_⟩; replace BK306 := bb_ BK306 hb; replace BK307 := bb_ BK307 hb; replace BK308 := bb_ BK308 hb; replace HB := Aside0.mk (below_step hb_ hb); (try clear hb); (try clear hb2); (try clear hk); (try clear hi); refine hK.out _ _ Bf_0 (fun hHeld => ?_); clear hK K; refine no_ ?_; refine pu_ HT_.out 5 (some 12) u29_6 ?_; refine pu_ HT_.out 6 (some 13) u29_7 ?_; refine pu_ HT_.out 7 (some 14) u29_8 ?_; refine take_ (i := 8) (N := some 15) (v := ?_) (a' := ?_) u29_9 rfl rfl (take_ofW HT_.out HW_.out (by kernel_rfl)) (fun _ _ _ h => h) (Or.inl ⟨(by rfl), ?_⟩) hHeld ?_ ?_; rotate_left
    ·rintro w' ⟨s0, s1, s2, s3, s4, s5, s6, s7, s8, s9, s10⟩
     go_simp; with_reducible rfl
    rotate_left
    ·simp only [Act.put, List.setIfInBounds_toArray, List.set_cons_zero, List.set_cons_succ, i64_w, i32_w]
     rfl
    refine take_ (i := 9) (N := some 16) (v := ?_) (a' := ?_) u29_10 rfl rfl (take_ofW HT_.out HW_.out (by kernel_rfl)) (fun _ _ _ h => h) (Or.inl ⟨(by rfl), ?_⟩) hHeld ?_ ?_; rotate_left
    ·rintro w' ⟨s0, s1, s2, s3, s4, s5, s6, s7, s8, s9, s10⟩
     go_simp; with_reducible rfl
    rotate_left
    ·simp only [Act.put, List.setIfInBounds_toArray, List.set_cons_zero, List.set_cons_succ, i64_w, i32_w]
     rfl
    refine one_ (i := 10) (N := some 17) u29_11 rfl rfl (one_of HT_.out (by kernel_rfl)) (by decide) (fun K hK => ?_); refine goes_ Try.func79 (by kernel_rfl) rfl #[.agg #[.int .i64 a0_0, .int .i64 a0_1, .slice A0_2 l0_2.length c0_2, .slice A0_3 l0_3.length c0_3]] (by rfl) rfl rfl Bf_4 ?_; with_reducible refine (impl_TilesOf.calls k a0_0 a0_1 _ _ l0_2 _ _ l0_3 t311 _ ?side1 ?side2 ?side3 ?side4 A8.out).mono ?_
    (case side1 => repeat (first | exact (Kd.C_below HR0_2.out HB.out) | (with_reducible refine Kd.C_alloc ?_ _) | (with_reducible refine Kd.C_drewN ?_ _) | (with_reducible refine Kd.C_drew ?_))); (case side2 => exact HC0_2.out); (case side3 => repeat (first | exact (Kd.C_below HR0_3.out HB.out) | (with_reducible refine Kd.C_alloc ?_ _) | (with_reducible refine Kd.C_drewN ?_ _) | (with_reducible refine Kd.C_drew ?_))); (case side4 => exact HC0_3.out); rintro e w36 ⟨rfl, hb⟩; refine ⟨_, rfl, ?_⟩; replace BK306 := bb_ BK306 hb; replace BK307 := bb_ BK307 hb; replace BK308 := bb_ BK308 hb; replace HB := Aside0.mk (below_step hb_ hb); (try clear hb); (try clear hb2); (try clear hk); (try clear hi); refine hK.out _ _ Bf_0 (fun hHeld => ?_); clear hK K; refine no_ ?_; refine pu_ HT_.out 11 (some 18) u29_12 ?_; refine one_ (i := 12) (N := some 19) u29_13 rfl rfl (one_of HT_.out (by kernel_rfl)) (by decide) (fun K hK => ?_); refine goes_ Try.func112 (by kernel_rfl) rfl #[.int .i64 a2_0, .int .i64 0, .int .i64 (wrap64 (t311 - 1))] (by rfl) rfl rfl Bf_4 ?_; with_reducible refine (impl_within.calls a2_0 0 (wrap64 (t311 - 1)) false _ A9.out).mono ?_
    rintro e w' ⟨rfl, ⟨nd, rfl⟩⟩; refine ⟨_, rfl, ?_⟩; refine hK.out _ _ Bf_0 (fun hHeld => ?_); clear hK K; refine no_ ?_; refine pu_ HT_.out 13 (some 20) u29_14 ?_; refine pu_ HT_.out 14 (some 21) u29_15 ?_; refine pz_ HT_.out 15 (some 22) u29_16 ?_; refine pz_ HT_.out 16 (some 23) u29_17 ?_; refine pz_ HT_.out 17 (some 24) u29_18 ?_; refine pz_ HT_.out 18 (some 25) u29_19 ?_; refine pz_ HT_.out 19 (some 26) u29_20 ?_; refine pz_ HT_.out 20 (some 27) u29_21 ?_; refine pz_ HT_.out 21 (some 28) u29_22 ?_; refine pu_ HT_.out 22 (some 29) u29_23 ?_; refine pu_ HT_.out 23 (some 30) u29_24 ?_; refine pz_ HT_.out 24 (some 31) u29_25 ?_; refine pz_ HT_.out 25 (some 32) u29_26 ?_; refine pz_ HT_.out 26 (some 33) u29_27 ?_; refine pu_ HT_.out 27 (some 34) u29_28 ?_; refine pu_ HT_.out 28 (some 6) u29_29 ?_; refine done_ (done_of HT_.out (by kernel_rfl)) ?_; try go_wp2
    go_ret; exact ⟨Bf_5, hb_⟩
  ·replace c7 := Bool.eq_false_iff.mpr c7
   subst c7; rw [if_neg (show ¬ (false = true) by decide)] at H; obtain rfl := Option.some.inj H; go_enter Try.func238, Try.ntmps238; try go_wp2_with (first | ((with_reducible refine gate_dst (N := 3) rfl ?_); refine bx_ (N := 3) (cs := #[.int .i64 a0_0, .int .i64 a0_1, .slice A0_2 l0_2.length c0_2, .slice A0_3 l0_3.length c0_3]) (t := 33) ?_; intro gb306 hg w37 hbox hb; have BK306 := Aside0.mk (hbox); have GW306 := gw_ hg hb_; have GE306 := gw_ hg hb_; replace HB := Aside0.mk (below_step hb_ hb); clear hb hbox hg) | ((with_reducible refine gate_dst (N := 4) rfl ?_); refine bx_ (N := 4) (cs := #[.int .i64 a1_0, .bool a1_1, .bool a1_2, .bool a1_3]) (t := 35) ?_; intro gb307 hg w38 hbox hb; have BK307 := Aside0.mk (hbox); have GW307 := gw_ hg hb_; have GE307 := gw_ hg hb_; replace HB := Aside0.mk (below_step hb_ hb); obtain ⟨NB306_307, NB307_306, BK306⟩ := nb_ hg hb BK306; clear hb hbox hg) | ((with_reducible refine gate_dst (N := 5) rfl ?_); refine bx_ (N := 5) (cs := #[.int .i64 a2_0, .int .i64 a2_1, .int .i64 a2_2]) (t := 135) ?_; intro gb308 hg w39 hbox hb; have BK308 := Aside0.mk (hbox); have GW308 := gw_ hg hb_; have GE308 := gw_ hg hb_; replace HB := Aside0.mk (below_step hb_ hb); obtain ⟨NB306_308, NB308_306, BK306⟩ := nb_ hg hb BK306; obtain ⟨NB307_308, NB308_307, BK307⟩ := nb_ hg hb BK307; clear hb hbox hg))
   replace BK306 := Aside0.mk (blk_drew BK306.out); replace BK307 := Aside0.mk (blk_drew BK307.out); replace BK308 := Aside0.mk (blk_drew BK308.out); replace HB := Aside0.mk (below_drew1 HB.out); refine start_ (n := 29) (S := fun w' => w'.cell? ⟨gb306, 0, none⟩ = some (.int .i64 a0_0) ∧ w'.cell? ⟨gb306, 1, none⟩ = some (.int .i64 a0_1) ∧ w'.cell? ⟨gb306, 2, none⟩ = some (.slice A0_2 l0_2.length c0_2) ∧ w'.cell? ⟨gb306, 3, none⟩ = some (.slice A0_3 l0_3.length c0_3) ∧ w'.cell? ⟨gb307, 0, none⟩ = some (.int .i64 a1_0) ∧ w'.cell? ⟨gb307, 1, none⟩ = some (.bool a1_1) ∧ w'.cell? ⟨gb307, 2, none⟩ = some (.bool a1_2) ∧ w'.cell? ⟨gb307, 3, none⟩ = some (.bool a1_3)) (ds := []) u29_0 (by kernel_rfl) rfl rfl ⟨(blk_cell BK306.out 0).trans rfl, (blk_cell BK306.out 1).trans rfl, (blk_cell BK306.out 2).trans rfl, (blk_cell BK306.out 3).trans rfl, (blk_cell BK307.out 0).trans rfl, (blk_cell BK307.out 1).trans rfl, (blk_cell BK307.out 2).trans rfl, (blk_cell BK307.out 3).trans rfl⟩ (fun hHeld => ?_); refine with_tabW impl_HeadOk.tab1 impl_HeadOk.bits1 (fun HT_ HW_ => ?_); generalize w39.drew = w40 at BK306 BK307 BK308 HB hHeld ⊢
   refine take_ (i := 0) (N := some 7) (v := ?_) (a' := ?_) u29_1 rfl rfl (take_ofW HT_.out HW_.out (by kernel_rfl)) (fun _ _ _ h => h) (Or.inl ⟨(by rfl), ?_⟩) hHeld ?_ ?_; rotate_left
   ·rintro w' ⟨s0, s1, s2, s3, s4, s5, s6, s7⟩
    go_simp; with_reducible rfl
   rotate_left
   ·simp only [Act.put, List.setIfInBounds_toArray, List.set_cons_zero, List.set_cons_succ, i64_w, i32_w]
    rfl
   refine one_ (i := 1) (N := some 8) u29_2 rfl rfl (one_of HT_.out (by kernel_rfl)) (by decide) (fun K hK => ?_); refine goes_ Try.func77 (by kernel_rfl) rfl #[.agg #[.int .i64 a0_0, .int .i64 a0_1, .slice A0_2 l0_2.length c0_2, .slice A0_3 l0_3.length c0_3]] (by rfl) rfl rfl Bf_4 ?_; with_reducible refine (impl_SeqOk.calls k a0_0 a0_1 _ _ l0_2 _ _ l0_3 true _ ?side1 ?side2 ?side3 ?side4 A4.out).mono ?_
   (case side1 => repeat (first | exact (Kd.C_below HR0_2.out HB.out) | (with_reducible refine Kd.C_alloc ?_ _) | (with_reducible refine Kd.C_drewN ?_ _) | (with_reducible refine Kd.C_drew ?_))); (case side2 => exact HC0_2.out); (case side3 => repeat (first | exact (Kd.C_below HR0_3.out HB.out) | (with_reducible refine Kd.C_alloc ?_ _) | (with_reducible refine Kd.C_drewN ?_ _) | (with_reducible refine Kd.C_drew ?_))); (case side4 => exact HC0_3.out); rintro e w41 ⟨rfl, hb⟩; refine ⟨_, rfl, ?_⟩; replace BK306 := bb_ BK306 hb; replace BK307 := bb_ BK307 hb; replace BK308 := bb_ BK308 hb; replace HB := Aside0.mk (below_step hb_ hb); (try clear hb); (try clear hb2); (try clear hk); (try clear hi); refine hK.out _ _ Bf_8 (fun hHeld => ?_); clear hK K; refine no_ ?_; refine pu_ HT_.out 2 (some 9) u29_3 ?_; refine take_ (i := 3) (N := some 10) (v := ?_) (a' := ?_) u29_4 rfl rfl (take_ofW HT_.out HW_.out (by kernel_rfl)) (fun _ _ _ h => h) (Or.inl ⟨(by rfl), ?_⟩) hHeld ?_ ?_; rotate_left
   ·rintro w' ⟨s0, s1, s2, s3, s4, s5, s6, s7⟩
    go_simp; with_reducible rfl
   rotate_left
   ·simp only [Act.put, List.setIfInBounds_toArray, List.set_cons_zero, List.set_cons_succ, i64_w, i32_w]
    rfl
   refine one_ (i := 4) (N := some 11) u29_5 rfl rfl (one_of HT_.out (by kernel_rfl)) (by decide) (fun K hK => ?_); refine goes_ Try.func78 (by kernel_rfl) rfl #[.agg #[.int .i64 a1_0, .bool a1_1, .bool a1_2, .bool a1_3]] (by rfl) rfl rfl Bf_4 ?_; with_reducible refine (impl_ParOk.calls a1_0 a1_1 a1_2 a1_3 false _ A6.out).mono ?_
   rintro e w42 ⟨rfl, hb⟩; refine ⟨_, rfl, ?_⟩; replace BK306 := bb_ BK306 hb; replace BK307 := bb_ BK307 hb; replace BK308 := bb_ BK308 hb; replace HB := Aside0.mk (below_step hb_ hb); (try clear hb); (try clear hb2); (try clear hk); (try clear hi); refine hK.out _ _ Bf_8 (fun hHeld => ?_); clear hK K; refine no_ ?_; refine pu_ HT_.out 5 (some 12) u29_6 ?_; refine pu_ HT_.out 6 (some 13) u29_7 ?_; refine pz_ HT_.out 7 (some 14) u29_8 ?_; refine pz_ HT_.out 8 (some 15) u29_9 ?_; refine pz_ HT_.out 9 (some 16) u29_10 ?_; refine pz_ HT_.out 10 (some 17) u29_11 ?_; refine pz_ HT_.out 11 (some 18) u29_12 ?_; refine pz_ HT_.out 12 (some 19) u29_13 ?_; refine pu_ HT_.out 13 (some 20) u29_14 ?_; refine pu_ HT_.out 14 (some 21) u29_15 ?_; refine pz_ HT_.out 15 (some 22) u29_16 ?_; refine pz_ HT_.out 16 (some 23) u29_17 ?_; refine pz_ HT_.out 17 (some 24) u29_18 ?_; refine pz_ HT_.out 18 (some 25) u29_19 ?_; refine pz_ HT_.out 19 (some 26) u29_20 ?_; refine pz_ HT_.out 20 (some 27) u29_21 ?_; refine pz_ HT_.out 21 (some 28) u29_22 ?_; refine pu_ HT_.out 22 (some 29) u29_23 ?_; refine pu_ HT_.out 23 (some 30) u29_24 ?_; refine pz_ HT_.out 24 (some 31) u29_25 ?_; refine pz_ HT_.out 25 (some 32) u29_26 ?_; refine pz_ HT_.out 26 (some 33) u29_27 ?_; refine pu_ HT_.out 27 (some 34) u29_28 ?_; refine pu_ HT_.out 28 (some 6) u29_29 ?_; refine done_ (done_of HT_.out (by kernel_rfl)) ?_; try go_wp2
   go_ret; exact ⟨Bf_5, hb_⟩
 ·replace c5 := Bool.eq_false_iff.mpr c5
  subst c5; rw [if_neg (show ¬ (false = true) by decide)] at H; obtain rfl := Option.some.inj H; go_enter Try.func238, Try.ntmps238; try go_wp2_with (first | ((with_reducible refine gate_dst (N := 3) rfl ?_); refine bx_ (N := 3) (cs := #[.int .i64 a0_0, .int .i64 a0_1, .slice A0_2 l0_2.length c0_2, .slice A0_3 l0_3.length c0_3]) (t := 33) ?_; intro gb306 hg w43 hbox hb; have BK306 := Aside0.mk (hbox); have GW306 := gw_ hg hb_; have GE306 := gw_ hg hb_; replace HB := Aside0.mk (below_step hb_ hb); clear hb hbox hg) | ((with_reducible refine gate_dst (N := 4) rfl ?_); refine bx_ (N := 4) (cs := #[.int .i64 a1_0, .bool a1_1, .bool a1_2, .bool a1_3]) (t := 35) ?_; intro gb307 hg w44 hbox hb; have BK307 := Aside0.mk (hbox); have GW307 := gw_ hg hb_; have GE307 := gw_ hg hb_; replace HB := Aside0.mk (below_step hb_ hb); obtain ⟨NB306_307, NB307_306, BK306⟩ := nb_ hg hb BK306; clear hb hbox hg) | ((with_reducible refine gate_dst (N := 5) rfl ?_); refine bx_ (N := 5) (cs := #[.int .i64 a2_0, .int .i64 a2_1, .int .i64 a2_2]) (t := 135) ?_; intro gb308 hg w45 hbox hb; have BK308 := Aside0.mk (hbox); have GW308 := gw_ hg hb_; have GE308 := gw_ hg hb_; replace HB := Aside0.mk (below_step hb_ hb); obtain ⟨NB306_308, NB308_306, BK306⟩ := nb_ hg hb BK306; obtain ⟨NB307_308, NB308_307, BK307⟩ := nb_ hg hb BK307; clear hb hbox hg))
  replace BK306 := Aside0.mk (blk_drew BK306.out); replace BK307 := Aside0.mk (blk_drew BK307.out); replace BK308 := Aside0.mk (blk_drew BK308.out); replace HB := Aside0.mk (below_drew1 HB.out); refine start_ (n := 29) (S := fun w' => w'.cell? ⟨gb306, 0, none⟩ = some (.int .i64 a0_0) ∧ w'.cell? ⟨gb306, 1, none⟩ = some (.int .i64 a0_1) ∧ w'.cell? ⟨gb306, 2, none⟩ = some (.slice A0_2 l0_2.length c0_2) ∧ w'.cell? ⟨gb306, 3, none⟩ = some (.slice A0_3 l0_3.length c0_3)) (ds := []) u29_0 (by kernel_rfl) rfl rfl ⟨(blk_cell BK306.out 0).trans rfl, (blk_cell BK306.out 1).trans rfl, (blk_cell BK306.out 2).trans rfl, (blk_cell BK306.out 3).trans rfl⟩ (fun hHeld => ?_); refine with_tabW impl_HeadOk.tab1 impl_HeadOk.bits1 (fun HT_ HW_ => ?_); generalize w45.drew = w46 at BK306 BK307 BK308 HB hHeld ⊢
  refine take_ (i := 0) (N := some 7) (v := ?_) (a' := ?_) u29_1 rfl rfl (take_ofW HT_.out HW_.out (by kernel_rfl)) (fun _ _ _ h => h) (Or.inl ⟨(by rfl), ?_⟩) hHeld ?_ ?_; rotate_left
  ·rintro w' ⟨s0, s1, s2, s3⟩
   go_simp; with_reducible rfl
  rotate_left
  ·simp only [Act.put, List.setIfInBounds_toArray, List.set_cons_zero, List.set_cons_succ, i64_w, i32_w]
   rfl
  refine one_ (i := 1) (N := some 8) u29_2 rfl rfl (one_of HT_.out (by kernel_rfl)) (by decide) (fun K hK => ?_); refine goes_ Try.func77 (by kernel_rfl) rfl #[.agg #[.int .i64 a0_0, .int .i64 a0_1, .slice A0_2 l0_2.length c0_2, .slice A0_3 l0_3.length c0_3]] (by rfl) rfl rfl Bf_4 ?_; with_reducible refine (impl_SeqOk.calls k a0_0 a0_1 _ _ l0_2 _ _ l0_3 false _ ?side1 ?side2 ?side3 ?side4 A4.out).mono ?_
  (case side1 => repeat (first | exact (Kd.C_below HR0_2.out HB.out) | (with_reducible refine Kd.C_alloc ?_ _) | (with_reducible refine Kd.C_drewN ?_ _) | (with_reducible refine Kd.C_drew ?_))); (case side2 => exact HC0_2.out); (case side3 => repeat (first | exact (Kd.C_below HR0_3.out HB.out) | (with_reducible refine Kd.C_alloc ?_ _) | (with_reducible refine Kd.C_drewN ?_ _) | (with_reducible refine Kd.C_drew ?_))); (case side4 => exact HC0_3.out); rintro e w47 ⟨rfl, hb⟩; refine ⟨_, rfl, ?_⟩; replace BK306 := bb_ BK306 hb; replace BK307 := bb_ BK307 hb; replace BK308 := bb_ BK308 hb; replace HB := Aside0.mk (below_step hb_ hb); (try clear hb); (try clear hb2); (try clear hk); (try clear hi); refine hK.out _ _ (by exact ⟨(blk_cell BK306.out 0).trans rfl, (blk_cell BK306.out 1).trans rfl, (blk_cell BK306.out 2).trans rfl, (blk_cell BK306.out 3).trans rfl⟩) (fun hHeld => ?_); clear hK K; refine no_ ?_; refine pu_ HT_.out 2 (some 9) u29_3 ?_; refine pz_ HT_.out 3 (some 10) u29_4 ?_; refine pz_ HT_.out 4 (some 11) u29_5 ?_; refine pu_ HT_.out 5 (some 12) u29_6 ?_; refine pu_ HT_.out 6 (some 13) u29_7 ?_; refine pz_ HT_.out 7 (some 14) u29_8 ?_; refine pz_ HT_.out 8 (some 15) u29_9 ?_; refine pz_ HT_.out 9 (some 16) u29_10 ?_; refine pz_ HT_.out 10 (some 17) u29_11 ?_; refine pz_ HT_.out 11 (some 18) u29_12 ?_; refine pz_ HT_.out 12 (some 19) u29_13 ?_; refine pu_ HT_.out 13 (some 20) u29_14 ?_; refine pu_ HT_.out 14 (some 21) u29_15 ?_; refine pz_ HT_.out 15 (some 22) u29_16 ?_; refine pz_ HT_.out 16 (some 23) u29_17 ?_; refine pz_ HT_.out 17 (some 24) u29_18 ?_; refine pz_ HT_.out 18 (some 25) u29_19 ?_; refine pz_ HT_.out 19 (some 26) u29_20 ?_; refine pz_ HT_.out 20 (some 27) u29_21 ?_; refine pz_ HT_.out 21 (some 28) u29_22 ?_; refine pu_ HT_.out 22 (some 29) u29_23 ?_; refine pu_ HT_.out 23 (some 30) u29_24 ?_; refine pz_ HT_.out 24 (some 31) u29_25 ?_; refine pz_ HT_.out 25 (some 32) u29_26 ?_; refine pz_ HT_.out 26 (some 33) u29_27 ?_; refine pu_ HT_.out 27 (some 34) u29_28 ?_; refine pu_ HT_.out 28 (some 6) u29_29 ?_; refine done_ (done_of HT_.out (by kernel_rfl)) ?_; try go_wp2
  go_ret; exact ⟨Bf_5, hb_⟩
end Go.Proofs.Ytbjambmdononiaa.PFnExactPictureParts
