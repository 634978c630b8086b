/- The program's PictureParts and the reference's PictureParts give the same parts, the same frame and the same verdict at every set, parameters and units; the arguments are left as they were, and what a call gives is its own. No condition beyond the statement's own. -/
import Derived.Test.YtbjambmdononiaaZFnExactPicturePartsy0
import Derived.Test.YtbjambmdononiaaZFnExactPicturePartsy1
import Derived.Test.YtbjambmdononiaaZFnExactPicturePartsy2
import Derived.Test.YtbjambmdononiaaZFnExactPicturePartsy3
import Derived.Test.YtbjambmdononiaaZFnExactPicturePartsy4
import Derived.Test.YtbjambmdononiaaZFnExactPicturePartsy5
import Derived.Test.YtbjambmdononiaaZFnExactPicturePartsy6
import Derived.Test.YtbjambmdononiaaZFnExactPicturePartsy7
import Derived.Test.YtbjambmdononiaaZFnExactPicturePartsy8
import Derived.Test.YtbjambmdononiaaZFnExactPicturePartsy9
namespace Go.Proofs.Ytbjambmdononiaa.Pure
open Go.RowKit Go.Proofs.Ytbjambmdononiaa.PFnExactPictureParts Go.Proofs.YtbjambmdononiaaW.PrintWords Go.Proofs.YtbjambmdononiaaW.PrintLast
set_option linter.unusedVariables false
set_option linter.unusedSimpArgs false
theorem w64 {x : Int} (h : -9223372036854775808 ≤ x) (h' : x ≤ 9223372036854775807) : wrap64 x = x := by unfold wrap64; omega
theorem ev_ite_pos {α : Type} {c : Prop} [Decidable c] {g f : Nat → Option α} {r : α} (h : c) (k : Ev g r) : Ev (fun n => if c then g n else f n) r := by simpa only [if_pos h] using k
theorem ev_ite_neg {α : Type} {c : Prop} [Decidable c] {g f : Nat → Option α} {r : α} (h : ¬ c) (k : Ev f r) : Ev (fun n => if c then g n else f n) r := by simpa only [if_neg h] using k
theorem ev_now' {α : Type} {g : Nat → Option α} {r : α} (h : ∀ k, g k = some r) : Ev g r := ⟨0, fun k _ => h k⟩
theorem ev_bind_some {α β : Type} {x : Option α} {a : α} {f : Nat → α → Option β} {r : β} (h : x = some a) (k : Ev (fun n => f n a) r) : Ev (fun n => x.bind (f n)) r := by subst h; simpa only [Option.bind_some] using k
theorem bt_bounds (s : ByteArray) (i : Int) : 0 ≤ bt s i ∧ bt s i ≤ 255 := bt_range s i
theorem size_ext (s : ByteArray) (a b : Nat) (h : a ≤ b) (hb : b ≤ s.size) : (s.extract a b).size = b - a := by rw [ByteArray.size_extract]; omega
theorem within_eq (a b c : Int) : impl_within.f a b c = some (decide (b ≤ a ∧ a ≤ c)) := by
  unfold impl_within.f
  by_cases h : a ≥ b
  · rw [if_pos h]; simp [show b ≤ a from h]
  · rw [if_neg h]; simp [show ¬ b ≤ a from h]
theorem eqints_loop (xs : List Int) (hx : xs.length ≤ 1099511627776) (d : Nat) : ∀ i : Int, 0 ≤ i → i ≤ (xs.length : Int) → (xs.length : Int) - i = d → Ev (fun k => laws_eqIntS.l0 k xs xs i) true := by
  induction d with
  | zero =>
    intro i h0 h1 hd
    exact Ev.step (fun k => laws_eqIntS.l0.eq_2 xs xs i k) (ev_ite_neg (by omega) (Ev.now _))
  | succ d ih =>
    intro i h0 h1 hd
    have hlt : i < (xs.length : Int) := by omega
    have hw : wrap64 (i + 1) = i + 1 := w64 (by omega) (by omega)
    refine Ev.step (fun k => laws_eqIntS.l0.eq_2 xs xs i k) (ev_ite_pos hlt (ev_ite_pos h0 (ev_ite_pos hlt (ev_ite_pos rfl ?_))))
    rw [hw]; exact ih (i + 1) (by omega) (by omega) (by omega)
theorem eqints_self (xs : List Int) (hx : xs.length ≤ 1099511627776) : Ev (fun k => laws_eqIntS.f k xs xs) true := by
  refine Ev.congr (fun k => if_pos rfl) ?_
  exact eqints_loop xs hx xs.length 0 (by omega) (by omega) (by omega)
theorem in_eq (a b c : Int) : spec_l01In.f a b c = some (decide (b ≤ a ∧ a ≤ c)) := by
  unfold spec_l01In.f
  by_cases h : a ≥ b
  · rw [if_pos h]; simp [show b ≤ a from h]
  · rw [if_neg h]; simp [show ¬ b ≤ a from h]
theorem rd_drop (l : List Int) (i : Int) (h0 : 0 ≤ i) (h1 : i < (l.length : Int)) : l.drop i.toNat = rd l i :: l.drop (i + 1).toNat := by
  rw [List.drop_eq_getElem_cons (by omega : i.toNat < l.length), show (i + 1).toNat = i.toNat + 1 by omega]
  congr 1
  unfold rd
  rw [List.getD_eq_getElem?_getD, List.getElem?_eq_getElem (by omega)]; rfl
theorem drop_end {α : Type} (l : List α) (i : Int) (h : (l.length : Int) ≤ i) : l.drop i.toNat = [] := List.drop_eq_nil_of_le (by omega)
/-- A side of a wall: 1 to 4 numbers, each 1 to 8. -/
def inR (x : Int) : Bool := decide (1 ≤ x ∧ x ≤ 8)
def sideOk (l : List Int) : Bool := decide (1 ≤ l.length ∧ l.length ≤ 4) && l.all inR
theorem side_short (l : List Int) (h : ¬ (1 ≤ (l.length : Int) ∧ (l.length : Int) ≤ 4)) : sideOk l = false := by
  have hd : decide (1 ≤ l.length ∧ l.length ≤ 4) = false := by rw [decide_eq_false_iff_not]; omega
  unfold sideOk; rw [hd]; rfl
theorem side_all (l : List Int) (h : 1 ≤ (l.length : Int) ∧ (l.length : Int) ≤ 4) : sideOk l = l.all inR := by
  have hd : decide (1 ≤ l.length ∧ l.length ≤ 4) = true := by rw [decide_eq_true_eq]; omega
  unfold sideOk; rw [hd]; rfl
theorem side_bad (l : List Int) (h : l.all inR = false) : sideOk l = false := by unfold sideOk; rw [h, Bool.and_false]
theorem sum_bounds (l : List Int) (h : l.all inR = true) : (l.length : Int) ≤ l.sum ∧ l.sum ≤ 8 * l.length := by
  induction l with
  | nil => simp
  | cons x l ih =>
    simp only [List.all_cons, Bool.and_eq_true, inR, decide_eq_true_eq] at h
    have := ih (by simpa [inR] using h.2)
    simp only [List.sum_cons, List.length_cons]
    omega
theorem sumOf_loop (l : List Int) (hl : l.length ≤ 4) (d : Nat) : ∀ (n i : Int), 0 ≤ i → i ≤ (l.length : Int) → (l.length : Int) - i = d → (l.drop i.toNat).all inR = true → 0 ≤ n → n ≤ 8 * i → Ev (fun k => impl_sumOf.l0 k n l (l.length : Int) i) (n + (l.drop i.toNat).sum) := by
  induction d with
  | zero =>
    intro n i h0 h1 hd ha hn hn1
    rw [drop_end l i (by omega)]
    refine Ev.step (fun k => impl_sumOf.l0.eq_2 n l _ i k) (ev_ite_neg (by omega) ?_)
    simpa using Ev.now n
  | succ d ih =>
    intro n i h0 h1 hd ha hn hn1
    have hlt : i < (l.length : Int) := by omega
    rw [rd_drop l i h0 hlt] at ha ⊢
    simp only [List.all_cons, Bool.and_eq_true, inR, decide_eq_true_eq] at ha
    refine Ev.step (fun k => impl_sumOf.l0.eq_2 n l _ i k) (ev_ite_pos hlt (ev_ite_pos h0 (ev_ite_pos hlt ?_)))
    rw [w64 (by omega) (by omega), w64 (by omega) (by omega), List.sum_cons, ← Int.add_assoc]
    exact ih (n + rd l i) (i + 1) (by omega) (by omega) (by omega) (by simpa [inR] using ha.2) (by omega) (by omega)
theorem sumOf_ev (l : List Int) (h : sideOk l = true) : Ev (fun k => impl_sumOf.f k l) l.sum := by
  simp only [sideOk, Bool.and_eq_true, decide_eq_true_eq] at h
  have := sumOf_loop l h.1.2 l.length 0 0 (by omega) (by omega) (by omega) (by simpa using h.2) (by omega) (by omega)
  rw [show (0 : Int) + (l.drop (0 : Int).toNat).sum = l.sum by simp] at this
  exact this
/-- How many squares; 0 where a side is none. -/
def squares (c r : List Int) : Int := if sideOk c && sideOk r then c.sum * r.sum else 0
theorem squares_c (c r : List Int) (h : sideOk c = false) : squares c r = 0 := by unfold squares; rw [h]; rfl
theorem squares_r (c r : List Int) (h : sideOk r = false) : squares c r = 0 := by unfold squares; rw [h, Bool.and_false]; rfl
theorem squares_bounds (c r : List Int) : 0 ≤ squares c r ∧ squares c r ≤ 1024 := by
  unfold squares
  split
  · rename_i h
    simp only [Bool.and_eq_true] at h
    have h1 := h.1; have h2 := h.2
    simp only [sideOk, Bool.and_eq_true, decide_eq_true_eq] at h1 h2
    have b1 := sum_bounds c h1.2
    have b2 := sum_bounds r h2.2
    constructor
    · exact Int.mul_nonneg (by omega) (by omega)
    · have : c.sum * r.sum ≤ 32 * 32 := Int.mul_le_mul (by omega) (by omega) (by omega) (by omega)
      omega
  · omega
theorem squares_l1 (ls : List (List Int)) (n i : Int) (l : List Int) (a b : Int) (c r : List Int) (v : Int) (hl : l.length ≤ 1099511627776) (hg : l.all inR = true → Ev (fun k => impl_SquaresOf.l0 k ls n (wrap64 (i + 1)) a b c r) v) (hb : l.all inR = false → v = 0) (d : Nat) :
    ∀ j : Int, 0 ≤ j → j ≤ (l.length : Int) → (l.length : Int) - j = d → l.all inR = (l.drop j.toNat).all inR → Ev (fun k => impl_SquaresOf.l1 k ls n i l (l.length : Int) j a b c r) v := by
  induction d with
  | zero =>
    intro j h0 h1 hd ha
    refine Ev.step (fun k => impl_SquaresOf.l1.eq_2 ls n i l _ j a b c r k) (ev_ite_neg (by omega) (hg ?_))
    rw [ha, drop_end l j (by omega)]; rfl
  | succ d ih =>
    intro j h0 h1 hd ha
    have hlt : j < (l.length : Int) := by omega
    refine Ev.step (fun k => impl_SquaresOf.l1.eq_2 ls n i l _ j a b c r k) (ev_ite_pos hlt (ev_ite_pos h0 (ev_ite_pos hlt (ev_bind_some (within_eq _ _ _) ?_))))
    rw [rd_drop l j h0 hlt] at ha
    simp only [List.all_cons] at ha
    by_cases hin : 1 ≤ rd l j ∧ rd l j ≤ 8
    · refine ev_ite_pos (by simpa using hin) ?_
      rw [w64 (by omega) (by omega)]
      refine ih (j + 1) (by omega) (by omega) (by omega) ?_
      rw [ha, show inR (rd l j) = true by simpa [inR] using hin]; simp
    · refine ev_ite_neg (by simpa using hin) ?_
      rw [show inR (rd l j) = false by simpa [inR] using hin] at ha
      rw [hb (by rw [ha]; rfl)]; exact Ev.now _
theorem squares_impl (a b : Int) (c r : List Int) (hc : c.length ≤ 1099511627776) (hr : r.length ≤ 1099511627776) : Ev (fun k => impl_SquaresOf.f k a b c r) (squares c r) := by
  refine ev_bind_some rfl ?_
  have e0 : rd_L5 [c, r] 0 = c := rfl
  have e1 : rd_L5 [c, r] 1 = r := rfl
  refine Ev.step (fun k => impl_SquaresOf.l0.eq_2 [c, r] 2 0 a b c r k) (ev_ite_pos (by omega) (ev_ite_pos (by omega) (ev_ite_pos (by simp) ?_)))
  rw [e0]
  refine ev_bind_some (within_eq _ _ _) ?_
  by_cases hcl : 1 ≤ (c.length : Int) ∧ (c.length : Int) ≤ 4
  · refine ev_ite_pos (by simpa using hcl) ?_
    refine squares_l1 [c, r] 2 0 c a b c r _ hc ?_ ?_ c.length 0 (by omega) (by omega) (by omega) (by simp)
    · intro hca
      have hcs : sideOk c = true := by rw [side_all c hcl, hca]
      rw [show wrap64 (0 + 1) = 1 from w64 (by omega) (by omega)]
      refine Ev.step (fun k => impl_SquaresOf.l0.eq_2 [c, r] 2 1 a b c r k) (ev_ite_pos (by omega) (ev_ite_pos (by omega) (ev_ite_pos (by simp) ?_)))
      rw [e1]
      refine ev_bind_some (within_eq _ _ _) ?_
      by_cases hrl : 1 ≤ (r.length : Int) ∧ (r.length : Int) ≤ 4
      · refine ev_ite_pos (by simpa using hrl) ?_
        refine squares_l1 [c, r] 2 1 r a b c r _ hr ?_ ?_ r.length 0 (by omega) (by omega) (by omega) (by simp)
        · intro hra
          have hrs : sideOk r = true := by rw [side_all r hrl, hra]
          rw [show wrap64 (1 + 1) = 2 from w64 (by omega) (by omega)]
          have hsq : squares c r = c.sum * r.sum := by simp [squares, hcs, hrs]
          refine Ev.step (fun k => impl_SquaresOf.l0.eq_2 [c, r] 2 2 a b c r k) (ev_ite_neg (by omega) (Ev.bind (sumOf_ev c hcs) (Ev.bind (sumOf_ev r hrs) ?_)))
          have hb := squares_bounds c r
          rw [hsq] at hb ⊢
          rw [w64 (by omega) (by omega)]; exact Ev.now _
        · intro hra; exact squares_r c r (side_bad r hra)
      · refine ev_ite_neg (by simpa using hrl) ?_
        rw [squares_r c r (side_short r hrl)]
        exact Ev.now _
    · intro hca; exact squares_c c r (side_bad c hca)
  · refine ev_ite_neg (by simpa using hcl) ?_
    rw [squares_c c r (side_short c hcl)]
    exact Ev.now _
theorem sum_spec_loop (l : List Int) (hl : l.length ≤ 4) (d : Nat) : ∀ (n i : Int), 0 ≤ i → i ≤ (l.length : Int) → (l.length : Int) - i = d → 0 ≤ n → n ≤ 8 * i → Ev (fun k => spec_l05Sum.l0 k l n i) (if (l.drop i.toNat).all inR then n + (l.drop i.toNat).sum else 0) := by
  induction d with
  | zero =>
    intro n i h0 h1 hd hn hn1
    rw [drop_end l i (by omega)]
    refine Ev.step (fun k => spec_l05Sum.l0.eq_2 l n i k) (ev_ite_neg (by omega) ?_)
    simpa using Ev.now n
  | succ d ih =>
    intro n i h0 h1 hd hn hn1
    have hlt : i < (l.length : Int) := by omega
    rw [rd_drop l i h0 hlt]
    refine Ev.step (fun k => spec_l05Sum.l0.eq_2 l n i k) (ev_ite_pos hlt (ev_ite_pos h0 (ev_bind_some (in_eq _ _ _) ?_)))
    by_cases hin : 1 ≤ rd l i ∧ rd l i ≤ 8
    · refine ev_ite_pos (by simpa using hin) ?_
      rw [w64 (by omega) (by omega), w64 (by omega) (by omega)]
      have := ih (n + rd l i) (i + 1) (by omega) (by omega) (by omega) (by omega) (by omega)
      rw [List.all_cons, show inR (rd l i) = true by simpa [inR] using hin, Bool.true_and, List.sum_cons, ← Int.add_assoc]
      exact this
    · refine ev_ite_neg (by simpa using hin) ?_
      rw [List.all_cons, show inR (rd l i) = false by simpa [inR] using hin]
      simpa using Ev.now (0 : Int)
theorem sum_spec (l : List Int) : Ev (fun k => spec_l05Sum.f k l) (if sideOk l then l.sum else 0) := by
  by_cases h1 : (l.length : Int) < 1
  · refine Ev.congr (fun k => if_pos h1) (Ev.step (fun k => spec_l05Sum.j0.eq_2 l true k) (ev_ite_pos rfl ?_))
    rw [side_short l (by omega)]
    exact Ev.now _
  · refine Ev.congr (fun k => if_neg h1) ?_
    by_cases h4 : (l.length : Int) > 4
    · refine Ev.step (fun k => spec_l05Sum.j0.eq_2 l _ k) (ev_ite_pos (by simpa using h4) ?_)
      rw [side_short l (by omega)]
      exact Ev.now _
    · refine Ev.step (fun k => spec_l05Sum.j0.eq_2 l _ k) (ev_ite_neg (by simpa using h4) ?_)
      have := sum_spec_loop l (by omega) l.length 0 0 (by omega) (by omega) (by omega) (by omega) (by omega)
      rw [side_all l (by omega)]
      simpa using this
theorem squares_spec (a b : Int) (c r : List Int) : Ev (fun k => spec_SquaresOf.f k a b c r) (squares c r) := by
  refine Ev.bind (sum_spec c) (Ev.bind (sum_spec r) ?_)
  have hb := squares_bounds c r
  have he : (if sideOk c then c.sum else 0) * (if sideOk r then r.sum else 0) = squares c r := by
    unfold squares
    cases sideOk c <;> cases sideOk r <;> simp
  rw [he, w64 (by omega) (by omega)]
  exact Ev.now _
def levelSquares (a : Int) : Int := if a = 1 then 16 else if a = 2 then 64 else if a = 3 then 256 else 0
theorem levelSquares_impl (a : Int) : impl_LevelSquares.f a = some (levelSquares a) := by
  unfold impl_LevelSquares.f levelSquares
  rw [within_eq, Option.bind_some]
  by_cases h1 : a = 1
  · subst h1; simp [wrap64, rd]
  · by_cases h2 : a = 2
    · subst h2; simp [wrap64, rd]
    · by_cases h3 : a = 3
      · subst h3; simp [wrap64, rd]
      · rw [if_neg (by simp; omega), if_neg h1, if_neg h2, if_neg h3]
theorem levelSquares_spec (a : Int) : spec_LevelSquares.f a = some (levelSquares a) := by
  unfold spec_LevelSquares.f levelSquares
  split
  · rfl
  · split
    · rfl
    · split <;> rfl
/-- A wall's set is right. -/
def seqOk (lv bits : Int) (c r : List Int) : Bool := decide (1 ≤ squares c r ∧ squares c r ≤ levelSquares lv) && decide (3 ≤ bits ∧ bits ≤ 8)
theorem seqOk_impl (lv bits : Int) (c r : List Int) (hc : c.length ≤ 1099511627776) (hr : r.length ≤ 1099511627776) : Ev (fun k => impl_SeqOk.f k lv bits c r) (seqOk lv bits c r) := by
  refine Ev.bind (squares_impl lv bits c r hc hr) (ev_bind_some (levelSquares_impl lv) (ev_bind_some (within_eq _ _ _) ?_))
  unfold seqOk
  by_cases h : 1 ≤ squares c r ∧ squares c r ≤ levelSquares lv
  · refine ev_ite_pos (by simpa using h) (ev_bind_some (within_eq _ _ _) ?_)
    rw [decide_eq_true h, Bool.true_and]; exact Ev.now _
  · refine ev_ite_neg (by simpa using h) ?_
    rw [decide_eq_false h, Bool.false_and]; exact Ev.now _
theorem seqOk_spec (lv bits : Int) (c r : List Int) : Ev (fun k => spec_SeqOk.f k lv bits c r) (seqOk lv bits c r) := by
  refine Ev.bind (squares_spec lv bits c r) (ev_bind_some (levelSquares_spec lv) (ev_bind_some (in_eq _ _ _) ?_))
  unfold seqOk
  by_cases h : 1 ≤ squares c r ∧ squares c r ≤ levelSquares lv
  · refine ev_ite_pos (by simpa using h) (ev_bind_some (in_eq _ _ _) ?_)
    rw [decide_eq_true h, Bool.true_and]; exact Ev.now _
  · refine ev_ite_neg (by simpa using h) ?_
    rw [decide_eq_false h, Bool.false_and]; exact Ev.now _
/-! ### rows of signs -/
theorem kind_same (a : Int) : impl_isKind.f a = spec_l07Kind.f a := rfl
/-- A row: no more than so many signs, each '0' or '1'. -/
def IsRow (s : ByteArray) : Prop := ∀ i : Int, 0 ≤ i → i < (s.size : Int) → bt s i = 48 ∨ bt s i = 49
theorem row_loop (s : ByteArray) (hs : s.size ≤ 400000) (d : Nat) : ∀ i : Int, 0 ≤ i → i ≤ (s.size : Int) → (s.size : Int) - i = d →
    ∃ b, Ev (fun k => impl_RowOk.l0 k s i) b ∧ Ev (fun k => spec_l02Row.l0 k s i) b ∧ (b = true → ∀ j : Int, i ≤ j → j < (s.size : Int) → bt s j = 48 ∨ bt s j = 49) := by
  induction d with
  | zero =>
    intro i h0 h1 hd
    exact ⟨true, Ev.step (fun k => impl_RowOk.l0.eq_2 s i k) (ev_ite_neg (by omega) (Ev.now _)), Ev.step (fun k => spec_l02Row.l0.eq_2 s i k) (ev_ite_neg (by omega) (Ev.now _)), fun _ j a b => by omega⟩
  | succ d ih =>
    intro i h0 h1 hd
    have hlt : i < (s.size : Int) := by omega
    obtain ⟨b, g1, g2, g3⟩ := ih (i + 1) (by omega) (by omega) (by omega)
    rw [← w64 (x := i + 1) (by omega) (by omega)] at g1 g2
    by_cases c1 : bt s i = 48
    · refine ⟨b, Ev.step (fun k => impl_RowOk.l0.eq_2 s i k) (ev_ite_pos hlt (ev_ite_pos h0 (ev_ite_pos c1 g1))), Ev.step (fun k => spec_l02Row.l0.eq_2 s i k) (ev_ite_pos hlt (ev_ite_pos h0 (ev_ite_pos c1 g2))), fun hb j a a' => ?_⟩
      by_cases e : j = i
      · rw [e]; exact .inl c1
      · exact g3 hb j (by omega) a'
    · by_cases c2 : bt s i = 49
      · refine ⟨b, Ev.step (fun k => impl_RowOk.l0.eq_2 s i k) (ev_ite_pos hlt (ev_ite_pos h0 (ev_ite_neg c1 (ev_ite_pos c2 g1)))), Ev.step (fun k => spec_l02Row.l0.eq_2 s i k) (ev_ite_pos hlt (ev_ite_pos h0 (ev_ite_neg c1 (ev_ite_pos c2 g2)))), fun hb j a a' => ?_⟩
        by_cases e : j = i
        · rw [e]; exact .inr c2
        · exact g3 hb j (by omega) a'
      · exact ⟨false, Ev.step (fun k => impl_RowOk.l0.eq_2 s i k) (ev_ite_pos hlt (ev_ite_pos h0 (ev_ite_neg c1 (ev_ite_neg c2 (Ev.now _))))), Ev.step (fun k => spec_l02Row.l0.eq_2 s i k) (ev_ite_pos hlt (ev_ite_pos h0 (ev_ite_neg c1 (ev_ite_neg c2 (Ev.now _))))), fun hb => absurd hb (by decide)⟩
theorem rowok_same (s : ByteArray) : ∃ b, Ev (fun k => impl_RowOk.f k s) b ∧ Ev (fun k => spec_RowOk.f k s) b ∧ (b = true → IsRow s ∧ s.size ≤ 400000) := by
  by_cases h : (s.size : Int) ≤ 400000
  · obtain ⟨b, g1, g2, g3⟩ := row_loop s (by omega) s.size 0 (by omega) (by omega) (by omega)
    refine ⟨b, Ev.congr (fun k => if_neg (by omega)) g1, Ev.congr (fun k => if_pos h) (Ev.bind (f := fun _ t => some t) g2 (Ev.now _)), fun hb => ⟨g3 hb, by omega⟩⟩
  · exact ⟨false, Ev.congr (fun k => if_pos (by omega)) (Ev.now _), Ev.congr (fun k => if_neg h) (Ev.now _), fun hb => absurd hb (by decide)⟩
/-- The number that the signs from a place on tell, n being told so far. -/
def rdBits (s : ByteArray) : Nat → Int → Int → Int
  | 0, _, n => n
  | m + 1, p, n => rdBits s m (p + 1) (2 * n + (bt s p - 48))
theorem rdBits_bounds (s : ByteArray) (hr : IsRow s) (m : Nat) : ∀ (p n : Int) (a : Nat), 0 ≤ p → p + m ≤ (s.size : Int) → 0 ≤ n → n < 2 ^ a → 0 ≤ rdBits s m p n ∧ rdBits s m p n < 2 ^ (a + m) ∧ n * 2 ^ m ≤ rdBits s m p n := by
  induction m with
  | zero => intro p n a hp hs h0 h1; exact ⟨h0, by simpa [rdBits] using h1, by simp [rdBits]⟩
  | succ m ih =>
    intro p n a hp hs h0 h1
    have hb := hr p hp (by omega)
    have hp2 : (2 : Int) ^ (a + 1) = 2 ^ a * 2 := Int.pow_succ 2 a
    obtain ⟨g1, g2, g3⟩ := ih (p + 1) (2 * n + (bt s p - 48)) (a + 1) (by omega) (by omega) (by omega) (by omega)
    refine ⟨g1, by rw [show a + (m + 1) = a + 1 + m by omega]; exact g2, Int.le_trans ?_ g3⟩
    rw [Int.pow_succ, show n * (2 ^ m * 2) = (2 * n) * 2 ^ m by rw [Int.mul_comm (2 ^ m) 2, ← Int.mul_assoc, Int.mul_comm n 2]]
    exact Int.mul_le_mul_of_nonneg_right (by omega) (Int.le_of_lt (Int.pow_pos (by decide)))
theorem rdBits_zeros (s : ByteArray) (m z : Nat) : ∀ p : Int, (∀ j : Int, p ≤ j → j < p + z → bt s j = 48) → rdBits s (z + m) p 0 = rdBits s m (p + z) 0 := by
  induction z with
  | zero => intro p h; simp
  | succ z ih =>
    intro p h
    rw [show z + 1 + m = (z + m) + 1 by omega, rdBits, h p (by omega) (by omega), show (2 * 0 + (48 - 48) : Int) = 0 by decide, ih (p + 1) (fun j a b => h j (by omega) (by omega)), show p + 1 + (z : Int) = p + ((z + 1 : Nat) : Int) by omega]
theorem pow2_le (i : Nat) (h : i ≤ 42) : (2 : Int) ^ i ≤ 4398046511104 := by
  have h1 : 2 ^ i ≤ 2 ^ 42 := Nat.pow_le_pow_right (by omega) h
  have h2 : (((2 ^ i : Nat)) : Int) ≤ ((2 ^ 42 : Nat) : Int) := Int.ofNat_le.2 h1
  rw [Int.natCast_pow] at h2
  exact h2
theorem or_bit (n c : Int) (h0 : 0 ≤ n) (h1 : n < 4398046511104) (hc : c = 48 ∨ c = 49) : Go.bits .or .i64 (wrap64 (n * 2)) ((c - 48) % 256) = 2 * n + (c - 48) := by
  rw [w64 (by omega) (by omega), show (c - 48) % 256 = c - 48 by omega]
  rw [Go.bits_join .i64 62 (by decide) (fun n h h' => by rw [Go.IntKind.wrap_i64]; have : (2 : Int) ^ 62 = 4611686018427387904 := by decide
                                                         omega) 1 (n * 2) (c - 48) (by omega) (by omega) (by have : (2 : Int) ^ 62 = 4611686018427387904 := by decide
                                                                                                             omega) (by omega) (by omega) (by have : (2 : Int) ^ 62 = 4611686018427387904 := by decide
                                                                                                                                              omega)]
  omega
theorem fix_loop (s : ByteArray) (hr : IsRow s) (hs : s.size ≤ 400000) (at_ w : Int) (hw : w ≤ 41) (ha : 0 ≤ at_) (bad : Bool) (d : Nat) : ∀ (n i : Int), 0 ≤ i → i ≤ w → w - i = d → at_ + w ≤ (s.size : Int) → 0 ≤ n → n < 2 ^ i.toNat →
    Ev (fun k => impl_scan_fix.l0 k w n i s at_ bad) (rdBits s d (at_ + i) n, s, at_ + w, bad) := by
  induction d with
  | zero =>
    intro n i h0 h1 hd hl hn hn1
    refine Ev.step (fun k => impl_scan_fix.l0.eq_2 w n i s at_ bad k) (ev_ite_neg (by omega) ?_)
    rw [w64 (by omega) (by omega)]
    exact Ev.now _
  | succ d ih =>
    intro n i h0 h1 hd hl hn hn1
    have hp := pow2_le i.toNat (by omega)
    have hpw : wrap64 (at_ + i) = at_ + i := w64 (by omega) (by omega)
    have hb := hr (at_ + i) (by omega) (by omega)
    have hp2 : (2 : Int) ^ (i + 1).toNat = 2 ^ i.toNat * 2 := by rw [show (i + 1).toNat = i.toNat + 1 by omega]; exact Int.pow_succ 2 _
    refine Ev.step (fun k => impl_scan_fix.l0.eq_2 w n i s at_ bad k) (ev_ite_pos (by omega) (ev_ite_pos (by rw [hpw]; omega) (ev_ite_pos (by rw [hpw]; omega) ?_)))
    rw [hpw, or_bit n _ hn (by omega) hb, w64 (x := i + 1) (by omega) (by omega)]
    have := ih (2 * n + (bt s (at_ + i) - 48)) (i + 1) (by omega) (by omega) (by omega) hl (by omega) (by omega)
    rw [show at_ + (i + 1) = at_ + i + 1 by omega] at this
    exact this
theorem read_loop (s : ByteArray) (hr : IsRow s) (hs : s.size ≤ 400000) (at_ w : Int) (hw : w ≤ 41) (ha : 0 ≤ at_) (d : Nat) : ∀ (n i : Int), 0 ≤ i → i ≤ w → w - i = d → at_ + w ≤ (s.size : Int) → 0 ≤ n → n < 2 ^ i.toNat →
    Ev (fun k => spec_l02Read.l0 k s at_ w n (at_ + i)) (rdBits s d (at_ + i) n, at_ + w, true) := by
  induction d with
  | zero =>
    intro n i h0 h1 hd hl hn hn1
    have hpw : wrap64 (at_ + w) = at_ + w := w64 (by omega) (by omega)
    refine Ev.step (fun k => spec_l02Read.l0.eq_2 s at_ w n (at_ + i) k) (ev_ite_neg (by rw [hpw]; omega) ?_)
    rw [hpw]
    exact Ev.now _
  | succ d ih =>
    intro n i h0 h1 hd hl hn hn1
    have hp := pow2_le i.toNat (by omega)
    have hpw : wrap64 (at_ + w) = at_ + w := w64 (by omega) (by omega)
    have hb := hr (at_ + i) (by omega) (by omega)
    have hp2 : (2 : Int) ^ (i + 1).toNat = 2 ^ i.toNat * 2 := by rw [show (i + 1).toNat = i.toNat + 1 by omega]; exact Int.pow_succ 2 _
    refine Ev.step (fun k => spec_l02Read.l0.eq_2 s at_ w n (at_ + i) k) (ev_ite_pos (by rw [hpw]; omega) (ev_ite_pos (by omega) (ev_ite_pos (by omega) ?_)))
    rw [w64 (x := bt s (at_ + i)) (by omega) (by omega), w64 (x := 2 * n) (by omega) (by omega), w64 (x := 2 * n + bt s (at_ + i)) (by omega) (by omega), w64 (x := 2 * n + bt s (at_ + i) - 48) (by omega) (by omega), w64 (x := at_ + i + 1) (by omega) (by omega)]
    have := ih (2 * n + (bt s (at_ + i) - 48)) (i + 1) (by omega) (by omega) (by omega) hl (by omega) (by omega)
    rw [show at_ + (i + 1) = at_ + i + 1 by omega, show 2 * n + (bt s (at_ + i) - 48) = 2 * n + bt s (at_ + i) - 48 by omega] at this
    rw [show d + 1 = d + 1 from rfl, rdBits, show 2 * n + (bt s (at_ + i) - 48) = 2 * n + bt s (at_ + i) - 48 by omega]
    exact this
theorem fix_bad (s : ByteArray) (at_ w : Int) : Ev (fun k => impl_scan_fix.f k s at_ true w) (0, s, at_, true) :=
  Ev.congr (fun k => if_pos rfl) (Ev.step (fun k => impl_scan_fix.j0.eq_2 w true s at_ true k) (ev_ite_pos rfl (Ev.now _)))
theorem fix_short (s : ByteArray) (hs : s.size ≤ 400000) (at_ w : Int) (ha : 0 ≤ at_) (ha1 : at_ ≤ 400000) (h : (s.size : Int) - at_ < w) : Ev (fun k => impl_scan_fix.f k s at_ false w) (0, s, at_, true) :=
  Ev.congr (fun k => if_neg (by decide)) (Ev.step (fun k => impl_scan_fix.j0.eq_2 w _ s at_ false k) (ev_ite_pos (by rw [w64 (by omega) (by omega)]; simpa using h) (Ev.now _)))
theorem fix_ev (s : ByteArray) (hr : IsRow s) (hs : s.size ≤ 400000) (at_ w : Int) (ha : 0 ≤ at_) (hw0 : 0 ≤ w) (hw : w ≤ 41) (h : at_ + w ≤ (s.size : Int)) : Ev (fun k => impl_scan_fix.f k s at_ false w) (rdBits s w.toNat at_ 0, s, at_ + w, false) := by
  refine Ev.congr (fun k => if_neg (by decide)) (Ev.step (fun k => impl_scan_fix.j0.eq_2 w _ s at_ false k) (ev_ite_neg (by rw [w64 (by omega) (by omega)]; simp; omega) ?_))
  have := fix_loop s hr hs at_ w hw ha false w.toNat 0 0 (by omega) hw0 (by omega) h (by omega) (by decide)
  rw [show at_ + (0 : Int) = at_ by omega] at this
  exact this
theorem read_short (s : ByteArray) (hs : s.size ≤ 400000) (at_ w : Int) (ha : 0 ≤ at_) (ha1 : at_ ≤ 400000) (h : (s.size : Int) - at_ < w) : Ev (fun k => spec_l02Read.f k s at_ w) (0, 0, false) :=
  Ev.congr (fun k => if_pos (by rw [w64 (by omega) (by omega)]; exact h)) (Ev.now _)
theorem read_ev (s : ByteArray) (hr : IsRow s) (hs : s.size ≤ 400000) (at_ w : Int) (ha : 0 ≤ at_) (hw0 : 0 ≤ w) (hw : w ≤ 41) (h : at_ + w ≤ (s.size : Int)) : Ev (fun k => spec_l02Read.f k s at_ w) (rdBits s w.toNat at_ 0, at_ + w, true) := by
  refine Ev.congr (fun k => if_neg (by rw [w64 (by omega) (by omega)]; omega)) ?_
  have := read_loop s hr hs at_ w hw ha w.toNat 0 0 (by omega) hw0 (by omega) h (by omega) (by decide)
  rw [show at_ + (0 : Int) = at_ by omega] at this
  exact this
/-! ### counted numbers -/
theorem shl_two (z : Int) (h0 : 0 ≤ z) (h1 : z ≤ 42) : shl .i64 1 z = 2 ^ z.toNat := by
  have hp := pow2_le z.toNat (by omega)
  have hq : (0 : Int) < 2 ^ z.toNat := Int.pow_pos (by decide)
  unfold shl
  rw [show min z.toNat (Go.IntKind.bits .i64) = z.toNat from Nat.min_eq_left (by simp only [Go.IntKind.bits]; omega), Int.one_mul, Go.IntKind.wrap_i64]
  omega
theorem u64_nn (z : Int) (h0 : 0 ≤ z) (h1 : z ≤ 1000000) : Go.IntKind.u64.wrap z = z := by
  simp only [Go.IntKind.wrap, Go.IntKind.bits, Go.IntKind.signed]
  simp
  omega
theorem zeros_at (s : ByteArray) (at_ : Int) (d : Nat) : ∀ z : Nat, at_ + z ≤ (s.size : Int) → (s.size : Int) - (at_ + z) = d → (∀ j : Int, at_ ≤ j → j < at_ + z → bt s j = 48) →
    ∃ Z : Nat, at_ + Z ≤ (s.size : Int) ∧ (∀ j : Int, at_ ≤ j → j < at_ + Z → bt s j = 48) ∧ (at_ + Z < (s.size : Int) → bt s (at_ + Z) ≠ 48) := by
  induction d with
  | zero => intro z h0 hd hz; exact ⟨z, h0, hz, fun h => by omega⟩
  | succ d ih =>
    intro z h0 hd hz
    by_cases c : bt s (at_ + z) = 48
    · exact ih (z + 1) (by omega) (by omega) (fun j a b => by
        by_cases e : j = at_ + z
        · rw [e]; exact c
        · exact hz j a (by omega))
    · exact ⟨z, h0, hz, fun _ => c⟩
theorem ue_impl_loop (s : ByteArray) (hs : s.size ≤ 400000) (at_ : Int) (ha : 0 ≤ at_) (Z : Nat) (hZ : at_ + Z ≤ (s.size : Int)) (h48 : ∀ j : Int, at_ ≤ j → j < at_ + Z → bt s j = 48) (hend : at_ + Z < (s.size : Int) → bt s (at_ + Z) ≠ 48)
    (r : Int × ByteArray × Int × Bool) (hj : Ev (fun k => impl_scan_ue.j1 k (Z : Int) s at_ false) r) (d : Nat) : ∀ z : Int, 0 ≤ z → z ≤ Z → (Z : Int) - z = d → Ev (fun k => impl_scan_ue.l0 k z s at_ false) r := by
  induction d with
  | zero =>
    intro z h0 h1 hd
    have e : z = Z := by omega
    subst e
    have hw : wrap64 (at_ + (Z : Int)) = at_ + Z := w64 (by omega) (by omega)
    refine Ev.step (fun k => impl_scan_ue.l0.eq_2 (Z : Int) s at_ false k) (ev_ite_neg (by decide) ?_)
    by_cases hl : at_ + (Z : Int) < (s.size : Int)
    · exact ev_ite_pos (by rw [hw]; exact hl) (ev_ite_pos (by rw [hw]; omega) (ev_ite_neg (by rw [hw]; exact hend hl) hj))
    · exact ev_ite_neg (by rw [hw]; exact hl) hj
  | succ d ih =>
    intro z h0 h1 hd
    have hw : wrap64 (at_ + z) = at_ + z := w64 (by omega) (by omega)
    refine Ev.step (fun k => impl_scan_ue.l0.eq_2 z s at_ false k) (ev_ite_neg (by decide) (ev_ite_pos (by rw [hw]; omega) (ev_ite_pos (by rw [hw]; omega) (ev_ite_pos (by rw [hw]; exact h48 _ (by omega) (by omega)) ?_))))
    rw [w64 (x := z + 1) (by omega) (by omega)]
    exact ih (z + 1) (by omega) (by omega) (by omega)
/-- What the reference does behind the zeros. -/
def ueTail (k : Nat) (s : ByteArray) (at_ z : Int) : Option (Int × Int × Bool) :=
  (spec_l02Read.f k s (wrap64 (at_ + z)) (wrap64 (z + 1))).bind fun t => (if t.2.2 = true then (if 0 ≤ (IntKind.u64.wrap (z)) then (if t.1 < (shl .i64 1 (IntKind.u64.wrap (z))) then (some (0, 0, false)) else (if (wrap64 (t.1 - 1)) > 1000000 then (some (0, 0, false)) else (some (wrap64 (t.1 - 1), t.2.1, true)))) else (none)) else (some (0, 0, false)))
theorem ue_spec_loop (s : ByteArray) (hs : s.size ≤ 400000) (at_ : Int) (ha : 0 ≤ at_) (Z M : Nat) (hM : M = min Z 21) (hZ : at_ + Z ≤ (s.size : Int)) (h48 : ∀ j : Int, at_ ≤ j → j < at_ + Z → bt s j = 48) (hend : at_ + Z < (s.size : Int) → bt s (at_ + Z) ≠ 48)
    (r : Int × Int × Bool) (hj : Ev (fun k => ueTail k s at_ (M : Int)) r) (d : Nat) : ∀ z : Int, 0 ≤ z → z ≤ M → (M : Int) - z = d → Ev (fun k => spec_l03ReadUe.l0 k s at_ z) r := by
  induction d with
  | zero =>
    intro z h0 h1 hd
    have e : z = M := by omega
    subst e
    have hw : wrap64 (at_ + (M : Int)) = at_ + M := w64 (by omega) (by omega)
    refine Ev.step (fun k => spec_l03ReadUe.l0.eq_2 s at_ (M : Int) k) ?_
    by_cases hl : at_ + (M : Int) < (s.size : Int)
    · refine ev_ite_pos (by rw [hw]; exact hl) (ev_ite_pos (by rw [hw]; omega) ?_)
      by_cases c : bt s (at_ + M) = 48
      · refine ev_ite_pos (by rw [hw]; exact c) (ev_ite_neg ?_ hj)
        by_cases e : M = Z
        · subst e; exact absurd c (hend hl)
        · omega
      · exact ev_ite_neg (by rw [hw]; exact c) hj
    · exact ev_ite_neg (by rw [hw]; exact hl) hj
  | succ d ih =>
    intro z h0 h1 hd
    have hw : wrap64 (at_ + z) = at_ + z := w64 (by omega) (by omega)
    refine Ev.step (fun k => spec_l03ReadUe.l0.eq_2 s at_ z k) (ev_ite_pos (by rw [hw]; omega) (ev_ite_pos (by rw [hw]; omega) (ev_ite_pos (by rw [hw]; exact h48 _ (by omega) (by omega)) (ev_ite_pos (by omega) ?_))))
    rw [w64 (x := z + 1) (by omega) (by omega)]
    exact ih (z + 1) (by omega) (by omega) (by omega)
theorem ue_same (s : ByteArray) (hr : IsRow s) (hs : s.size ≤ 400000) (at_ : Int) (ha : 0 ≤ at_) (ha1 : at_ ≤ (s.size : Int)) :
    (∃ n p, 0 ≤ n ∧ n ≤ 1000000 ∧ at_ ≤ p ∧ p ≤ (s.size : Int) ∧ Ev (fun k => spec_l03ReadUe.f k s at_) (n, p, true) ∧ Ev (fun k => impl_scan_ue.f k s at_ false) (n, s, p, false)) ∨
    (∃ q, Ev (fun k => spec_l03ReadUe.f k s at_) (0, 0, false) ∧ Ev (fun k => impl_scan_ue.f k s at_ false) (0, s, q, true)) := by
  obtain ⟨Z, hZ, h48, hend⟩ := zeros_at s at_ ((s.size : Int) - at_).toNat 0 (by simpa using ha1) (by omega) (fun j a b => by omega)
  have SP := fun r (h : Ev (fun k => ueTail k s at_ ((min Z 21 : Nat) : Int)) r) => ue_spec_loop s hs at_ ha Z (min Z 21) rfl hZ h48 hend r h (min Z 21) 0 (by omega) (by omega) (by omega)
  have IM := fun r (h : Ev (fun k => impl_scan_ue.j1 k (Z : Int) s at_ false) r) => ue_impl_loop s hs at_ ha Z hZ h48 hend r h Z 0 (by omega) (by omega) (by omega)
  by_cases h20 : Z ≤ 20
  · have hm : min Z 21 = Z := by omega
    rw [hm] at SP
    have hw1 : wrap64 (wrap64 (2 * (Z : Int)) + 1) = 2 * Z + 1 := by rw [w64 (x := 2 * (Z : Int)) (by omega) (by omega), w64 (by omega) (by omega)]
    have hw2 : wrap64 (at_ + (Z : Int)) = at_ + Z := w64 (by omega) (by omega)
    have hw3 : wrap64 ((Z : Int) + 1) = Z + 1 := w64 (by omega) (by omega)
    have hu : IntKind.u64.wrap (Z : Int) = Z := u64_nn _ (by omega) (by omega)
    by_cases hsh : (s.size : Int) - at_ < 2 * Z + 1
    · refine .inr ⟨at_, SP _ ?_, IM _ ?_⟩
      · refine Ev.bind (a := (0, 0, false)) ?_ (ev_ite_neg (by decide) (Ev.now _))
        rw [hw2, hw3]; exact read_short s hs _ _ (by omega) (by omega) (by omega)
      · refine Ev.step (fun k => impl_scan_ue.j1.eq_2 (Z : Int) s at_ false k) (ev_ite_neg (by omega) (Ev.bind (a := (0, s, at_, true)) ?_ (ev_ite_pos rfl (Ev.now _))))
        rw [hw1]; exact fix_short s hs _ _ ha (by omega) hsh
    · have hz := hend (by omega)
      have h49 : bt s (at_ + Z) = 49 := by
        rcases hr (at_ + Z) (by omega) (by omega) with h | h
        · exact absurd h hz
        · exact h
      have v0 : rdBits s (2 * (Z : Int) + 1).toNat at_ 0 = rdBits s (Z + 1) (at_ + Z) 0 := by
        rw [show (2 * (Z : Int) + 1).toNat = Z + (Z + 1) by omega]; exact rdBits_zeros s (Z + 1) Z at_ h48
      have v1 : rdBits s (Z + 1) (at_ + Z) 0 = rdBits s Z (at_ + Z + 1) 1 := by rw [rdBits, h49]; rfl
      obtain ⟨b1, b2, b3⟩ := rdBits_bounds s hr Z (at_ + Z + 1) 1 1 (by omega) (by omega) (by omega) (by decide)
      have pz := pow2_le (1 + Z) (by omega)
      have sp : ∀ r, Ev (fun k => if rdBits s (Z + 1) (at_ + Z) 0 < (shl .i64 1 (Z : Int)) then (some (0, 0, false)) else (if (wrap64 (rdBits s (Z + 1) (at_ + Z) 0 - 1)) > 1000000 then (some (0, 0, false)) else (some (wrap64 (rdBits s (Z + 1) (at_ + Z) 0 - 1), at_ + Z + (Z + 1), true)))) r → Ev (fun k => spec_l03ReadUe.f k s at_) r := by
        intro r h
        refine SP _ (Ev.bind (a := (rdBits s (Z + 1) (at_ + Z) 0, at_ + Z + (Z + 1), true)) ?_ (ev_ite_pos rfl ?_))
        · rw [hw2, hw3]; exact read_ev s hr hs _ _ (by omega) (by omega) (by omega) (by omega)
        · rw [hu]; exact ev_ite_pos (by omega) h
      have im : ∀ r, Ev (fun k => if (wrap64 (rdBits s (Z + 1) (at_ + Z) 0 - 1)) > 1000000 then (some (0, s, at_ + (2 * Z + 1), true)) else (some (wrap64 (rdBits s (Z + 1) (at_ + Z) 0 - 1), s, at_ + (2 * Z + 1), false))) r → Ev (fun k => impl_scan_ue.f k s at_ false) r := by
        intro r h
        refine IM _ (Ev.step (fun k => impl_scan_ue.j1.eq_2 (Z : Int) s at_ false k) (ev_ite_neg (by omega) (Ev.bind (a := (rdBits s (Z + 1) (at_ + Z) 0, s, at_ + (2 * Z + 1), false)) ?_ (ev_ite_neg (fun h => Bool.noConfusion h) h))))
        rw [hw1, ← v0]; exact fix_ev s hr hs _ _ ha (by omega) (by omega) (by omega)
      rw [v1] at sp im
      have hw4 : wrap64 (rdBits s Z (at_ + Z + 1) 1 - 1) = rdBits s Z (at_ + Z + 1) 1 - 1 := w64 (by omega) (by omega)
      have hge : ¬ rdBits s Z (at_ + Z + 1) 1 < shl .i64 1 (Z : Int) := by
        rw [shl_two _ (by omega) (by omega), show ((Z : Int)).toNat = Z by omega]; omega
      by_cases hbig : rdBits s Z (at_ + Z + 1) 1 - 1 > 1000000
      · exact .inr ⟨_, sp _ (ev_ite_neg hge (ev_ite_pos (by rw [hw4]; exact hbig) (Ev.now _))), im _ (ev_ite_pos (by rw [hw4]; exact hbig) (Ev.now _))⟩
      · have hpos : (0 : Int) < 2 ^ Z := Int.pow_pos (by decide)
        refine .inl ⟨rdBits s Z (at_ + Z + 1) 1 - 1, at_ + (2 * Z + 1), by omega, by omega, by omega, by omega, sp _ (ev_ite_neg hge (ev_ite_neg (by rw [hw4]; exact hbig) ?_)), im _ (ev_ite_neg (by rw [hw4]; exact hbig) ?_)⟩
        · rw [hw4, show at_ + (Z : Int) + (Z + 1) = at_ + (2 * Z + 1) by omega]; exact Ev.now _
        · rw [hw4]; exact Ev.now _
  · have hm : min Z 21 = 21 := by omega
    rw [hm] at SP
    refine .inr ⟨at_, SP _ ?_, IM _ ?_⟩
    · have hw2 : wrap64 (at_ + ((21 : Nat) : Int)) = at_ + 21 := w64 (by omega) (by omega)
      have hw3 : wrap64 (((21 : Nat) : Int) + 1) = 22 := w64 (by omega) (by omega)
      by_cases hsh : (s.size : Int) - (at_ + 21) < 22
      · refine Ev.bind (a := (0, 0, false)) ?_ (ev_ite_neg (by decide) (Ev.now _))
        rw [hw2, hw3]; exact read_short s hs _ _ (by omega) (by omega) hsh
      · obtain ⟨b1, b2, b3⟩ := rdBits_bounds s hr 22 (at_ + 21) 0 0 (by omega) (by omega) (by omega) (by decide)
        refine Ev.bind (a := (rdBits s 22 (at_ + 21) 0, at_ + 21 + 22, true)) ?_ (ev_ite_pos rfl (ev_ite_pos (by decide) ?_))
        · rw [hw2, hw3]; exact read_ev s hr hs _ 22 (by omega) (by omega) (by omega) (by omega)
        · have hsv : shl .i64 1 (IntKind.u64.wrap ((21 : Nat) : Int)) = 2097152 := by decide
          have hpv : (2 : Int) ^ (0 + 22) = 4194304 := by decide
          rw [hsv]
          by_cases hlt : rdBits s 22 (at_ + 21) 0 < 2097152
          · exact ev_ite_pos hlt (Ev.now _)
          · exact ev_ite_neg hlt (ev_ite_pos (by rw [w64 (by omega) (by omega)]; omega) (Ev.now _))
    · refine Ev.step (fun k => impl_scan_ue.j1.eq_2 (Z : Int) s at_ false k) (ev_ite_pos (by omega) (Ev.bind (fix_bad s at_ _) (ev_ite_pos rfl (Ev.now _))))
theorem ue_bad (s : ByteArray) (at_ : Int) : Ev (fun k => impl_scan_ue.f k s at_ true) (0, s, at_, true) :=
  Ev.step (fun k => impl_scan_ue.l0.eq_2 0 s at_ true k) (ev_ite_pos rfl (Ev.step (fun k => impl_scan_ue.j1.eq_2 0 s at_ true k) (ev_ite_neg (by omega) (Ev.bind (fix_bad s at_ _) (ev_ite_pos rfl (Ev.now _))))))
theorem openSe_in (u : Int) (h0 : 0 ≤ u) (h1 : u ≤ 1000000) : ∃ v, impl_OpenSe.f u = some (v, true) ∧ spec_OpenSe.f u = some (v, true) ∧ -500000 ≤ v ∧ v ≤ 500000 := by
  have ht : Int.tmod u 2 = u % 2 := Int.tmod_eq_emod_of_nonneg h0
  have hd : Int.tdiv u 2 = u / 2 := Int.tdiv_eq_ediv_of_nonneg h0
  have hd1 : Int.tdiv (u + 1) 2 = (u + 1) / 2 := Int.tdiv_eq_ediv_of_nonneg (by omega)
  have hin : decide (0 ≤ u ∧ u ≤ 1000000) = true := by rw [decide_eq_true_eq]; exact ⟨h0, h1⟩
  unfold impl_OpenSe.f spec_OpenSe.f
  rw [within_eq, in_eq, hin, Option.bind_some, Option.bind_some, ht]
  simp only [if_true]
  by_cases c : u % 2 = 1
  · simp only [if_pos c]
    rw [w64 (x := u + 1) (by omega) (by omega), hd1, w64 (x := (u + 1) / 2) (by omega) (by omega)]
    exact ⟨_, rfl, rfl, by omega, by omega⟩
  · simp only [if_neg c]
    rw [w64 (x := -u) (by omega) (by omega), Int.neg_tdiv, hd, w64 (x := u / 2) (by omega) (by omega), w64 (x := -(u / 2)) (by omega) (by omega)]
    exact ⟨_, rfl, rfl, by omega, by omega⟩
theorem openSe_zero : impl_OpenSe.f 0 = some (0, true) := by
  unfold impl_OpenSe.f
  rw [within_eq, Option.bind_some, if_pos (by decide), if_neg (by decide), w64 (x := -0) (by omega) (by omega), show Int.tdiv (-0) 2 = 0 from rfl, w64 (x := 0) (by omega) (by omega)]
theorem se_bad (s : ByteArray) (at_ : Int) : Ev (fun k => impl_scan_se.f k s at_ true) (0, s, at_, true) :=
  Ev.bind (ue_bad s at_) (ev_bind_some openSe_zero (ev_ite_pos rfl (Ev.now _)))
theorem se_same (s : ByteArray) (hr : IsRow s) (hs : s.size ≤ 400000) (at_ : Int) (ha : 0 ≤ at_) (ha1 : at_ ≤ (s.size : Int)) :
    (∃ n p, -500000 ≤ n ∧ n ≤ 500000 ∧ at_ ≤ p ∧ p ≤ (s.size : Int) ∧ Ev (fun k => spec_l03ReadSe.f k s at_) (n, p, true) ∧ Ev (fun k => impl_scan_se.f k s at_ false) (n, s, p, false)) ∨
    (∃ n q, Ev (fun k => spec_l03ReadSe.f k s at_) (0, 0, false) ∧ Ev (fun k => impl_scan_se.f k s at_ false) (n, s, q, true)) := by
  rcases ue_same s hr hs at_ ha ha1 with ⟨n, p, h0, h1, h2, h3, g1, g2⟩ | ⟨q, g1, g2⟩
  · obtain ⟨v, e1, e2, e3, e4⟩ := openSe_in n h0 h1
    exact .inl ⟨v, p, e3, e4, h2, h3, Ev.bind g1 (ev_ite_pos rfl (ev_bind_some e2 (Ev.now _))), Ev.bind g2 (ev_bind_some e1 (ev_ite_neg (fun h => Bool.noConfusion h) (Ev.now _)))⟩
  · exact .inr ⟨0, q, Ev.bind g1 (ev_ite_neg (by decide) (Ev.now _)), Ev.bind g2 (ev_bind_some openSe_zero (ev_ite_pos rfl (Ev.now _)))⟩
/-! ### copies of arguments -/
theorem toInts_loop (xs : List Int) (hx : xs.length ≤ 1099511627776) (d : Nat) : ∀ (ys : List Int) (i : Int), 0 ≤ i → i ≤ (xs.length : Int) → (xs.length : Int) - i = d → ys.length = xs.length → (∀ j : Nat, (j : Int) < i → ys[j]? = xs[j]?) →
    Ev (fun k => laws_toIntS.l0 k xs ys i) xs := by
  induction d with
  | zero =>
    intro ys i h0 h1 hd hl he
    have e : ys = xs := List.ext_getElem? fun j => by
      by_cases hj : j < xs.length
      · exact he j (by omega)
      · rw [List.getElem?_eq_none (by omega), List.getElem?_eq_none (by omega)]
    subst e
    exact Ev.step (fun k => laws_toIntS.l0.eq_2 ys ys i k) (ev_ite_neg (by omega) (Ev.now _))
  | succ d ih =>
    intro ys i h0 h1 hd hl he
    refine Ev.step (fun k => laws_toIntS.l0.eq_2 xs ys i k) (ev_ite_pos (by omega) (ev_ite_pos h0 (ev_ite_pos (by omega) ?_)))
    rw [w64 (by omega) (by omega)]
    refine ih _ (i + 1) (by omega) (by omega) (by omega) (by rw [List.length_set]; exact hl) (fun j hj => ?_)
    rw [List.getElem?_set]
    by_cases e : i.toNat = j
    · rw [if_pos e, if_pos (by omega), ← e, List.getElem?_eq_getElem (by omega)]
      unfold rd
      rw [List.getD_eq_getElem?_getD, List.getElem?_eq_getElem (by omega)]; rfl
    · rw [if_neg e]; exact he j (by omega)
theorem toInts_ev (xs : List Int) (hx : xs.length ≤ 2097152) : Ev (fun k => laws_toIntS.f k xs) xs := by
  refine Ev.congr (fun k => if_pos (by omega)) (ev_ite_pos (by omega) ?_)
  exact toInts_loop xs (by omega) xs.length _ 0 (by omega) (by omega) (by omega) (by simp) (fun j hj => by omega)
theorem toseq_ev (a b : Int) (xs ys : List Int) (hx : xs.length ≤ 2097152) (hy : ys.length ≤ 2097152) : Ev (fun k => laws_toSeq.f k a b xs ys) (a, b, xs, ys) :=
  Ev.bind (toInts_ev xs hx) (Ev.bind (toInts_ev ys hy) (Ev.now _))
theorem eqseq_self (a b : Int) (xs ys : List Int) (hx : xs.length ≤ 2097152) (hy : ys.length ≤ 2097152) : Ev (fun k => laws_eqSeq.f k a b xs ys a b xs ys) true :=
  Ev.congr (fun k => if_pos rfl) (ev_ite_pos rfl (Ev.bind (eqints_self xs (by omega)) (ev_ite_pos rfl (Ev.bind (eqints_self ys (by omega)) (ev_ite_pos rfl (Ev.now _))))))
/-- Either the sizes that are left run out, or the set is no longer than they were. -/
theorem szseq (a b : Int) (xs ys : List Int) (n : Int) (hx : xs.length ≤ maxLen) (hy : ys.length ≤ maxLen) (hn0 : 0 ≤ n) (hn : n ≤ 1048576) : ∃ v, laws_szSeq.f a b xs ys n = some v ∧ (v < 0 ∨ 0 ≤ v ∧ v ≤ n ∧ (xs.length : Int) ≤ n ∧ (ys.length : Int) ≤ n) := by
  simp only [maxLen] at hx hy
  unfold laws_szSeq.f laws_szIntS.f
  rw [w64 (x := n - (xs.length : Int)) (by omega) (by omega)]
  by_cases h : n - (xs.length : Int) < 0
  · rw [if_pos h]; exact ⟨-1, by simp, .inl (by omega)⟩
  · rw [if_neg h, Option.bind_some, if_neg h, w64 (x := n - (xs.length : Int) - (ys.length : Int)) (by omega) (by omega)]
    by_cases h2 : n - (xs.length : Int) - (ys.length : Int) < 0
    · rw [if_pos h2]; exact ⟨-1, by simp, .inl (by omega)⟩
    · rw [if_neg h2, Option.bind_some, if_neg h2]; exact ⟨_, rfl, .inr ⟨by omega, by omega, by omega, by omega⟩⟩
/-! ### heads -/
theorem par_same (a : Int) (b c d : Bool) : impl_ParOk.f a b c d = spec_ParOk.f a b c d := rfl
theorem par_some (a : Int) (b c d : Bool) : ∃ v, spec_ParOk.f a b c d = some v := by
  unfold spec_ParOk.f
  rw [in_eq, Option.bind_some]
  split
  · split
    · exact ⟨_, rfl⟩
    · exact ⟨_, rfl⟩
  · exact ⟨_, rfl⟩
theorem seqOk_side (lv b : Int) (c r : List Int) (h : seqOk lv b c r = true) : (1 ≤ c.length ∧ c.length ≤ 4) ∧ (1 ≤ r.length ∧ r.length ≤ 4) ∧ 3 ≤ b ∧ b ≤ 8 := by
  simp only [seqOk, Bool.and_eq_true, decide_eq_true_eq] at h
  have h1 := h.1.1
  unfold squares at h1
  split at h1
  · rename_i hs
    simp only [Bool.and_eq_true, sideOk, decide_eq_true_eq] at hs
    exact ⟨hs.1.1, hs.2.1, h.2⟩
  · omega
theorem tiles_bounds (c r : List Int) (hc : 1 ≤ c.length ∧ c.length ≤ 4) (hr : 1 ≤ r.length ∧ r.length ≤ 4) : 1 ≤ (c.length : Int) * (r.length : Int) ∧ (c.length : Int) * (r.length : Int) ≤ 16 := by
  have h1 : (1 : Int) * 1 ≤ (c.length : Int) * (r.length : Int) := Int.mul_le_mul (by omega) (by omega) (by omega) (by omega)
  have h2 : (c.length : Int) * (r.length : Int) ≤ 4 * 4 := Int.mul_le_mul (by omega) (by omega) (by omega) (by omega)
  omega
theorem tiles_impl (lv b : Int) (c r : List Int) (h : seqOk lv b c r = true) : Ev (fun k => impl_TilesOf.f k lv b c r) ((c.length : Int) * (r.length : Int)) := by
  obtain ⟨hc, hr, hb⟩ := seqOk_side lv b c r h
  have ht := tiles_bounds c r hc hr
  have hs := seqOk_impl lv b c r (by omega) (by omega)
  rw [h] at hs
  refine Ev.bind hs (ev_ite_pos rfl ?_)
  rw [w64 (by omega) (by omega)]; exact Ev.now _
theorem tiles_spec (lv b : Int) (c r : List Int) (h : seqOk lv b c r = true) : Ev (fun k => spec_TilesOf.f k lv b c r) ((c.length : Int) * (r.length : Int)) := by
  obtain ⟨hc, hr, hb⟩ := seqOk_side lv b c r h
  have ht := tiles_bounds c r hc hr
  have hs := seqOk_spec lv b c r
  rw [h] at hs
  refine Ev.bind hs (ev_ite_pos rfl ?_)
  rw [w64 (by omega) (by omega)]; exact Ev.now _
theorem headok_same (lv b : Int) (c r : List Int) (p0 : Int) (p1 p2 p3 : Bool) (h : seqOk lv b c r = true) (hp : spec_ParOk.f p0 p1 p2 p3 = some true) (t f q : Int) :
    ∃ v, Ev (fun k => impl_HeadOk.f k lv b c r p0 p1 p2 p3 t f q) v ∧ Ev (fun k => spec_HeadOk.f k lv b c r p0 p1 p2 p3 t f q) v := by
  obtain ⟨hc, hr, hb⟩ := seqOk_side lv b c r h
  have ht := tiles_bounds c r hc hr
  have hs := seqOk_impl lv b c r (by omega) (by omega)
  rw [h] at hs
  have hT := tiles_impl lv b c r h
  have hT2 := tiles_spec lv b c r h
  have hsh : shl .i64 1 b = 2 ^ b.toNat := shl_two b (by omega) (by omega)
  have hu : IntKind.u64.wrap b = b := u64_nn b (by omega) (by omega)
  have hpb := pow2_le b.toNat (by omega)
  have hpz : (0 : Int) < 2 ^ b.toNat := Int.pow_pos (by decide)
  have im : ∀ v, Ev (fun k => (impl_within.f t 0 (wrap64 ((c.length : Int) * (r.length : Int) - 1))).bind fun t262 => (if t262 = true then (if 0 ≤ b then ((impl_within.f f 0 (wrap64 ((shl .i64 1 b) - 1))).bind fun t263 => (if t263 = true then ((impl_within.f q 0 40).bind fun t264 => (some t264)) else (some false))) else (none)) else (some false))) v → Ev (fun k => impl_HeadOk.f k lv b c r p0 p1 p2 p3 t f q) v :=
    fun v hv => Ev.bind hs (ev_ite_pos rfl (ev_bind_some ((par_same _ _ _ _).trans hp) (ev_ite_pos rfl (Ev.bind hT hv))))
  rw [w64 (x := (c.length : Int) * (r.length : Int) - 1) (by omega) (by omega), hsh, w64 (x := (2 : Int) ^ b.toNat - 1) (by omega) (by omega)] at im
  have sp : ∀ v, Ev (fun k => if t ≥ 0 then ((spec_TilesOf.f k lv b c r).bind fun t170 => (if t < t170 then (if f ≥ 0 then (if 0 ≤ (IntKind.u64.wrap b) then (if f < (shl .i64 1 (IntKind.u64.wrap b)) then ((spec_l01In.f q 0 40).bind fun t171 => (some t171)) else (some false)) else (none)) else (some false)) else (some false))) else (some false)) v → Ev (fun k => spec_HeadOk.f k lv b c r p0 p1 p2 p3 t f q) v :=
    fun v hv => ev_bind_some hp (ev_ite_pos rfl hv)
  rw [hu, hsh] at sp
  by_cases t0 : t ≥ 0
  · by_cases t1 : t < (c.length : Int) * (r.length : Int)
    · have it : ∀ v, _ → _ := fun v hv => im v (ev_bind_some (within_eq _ _ _) (ev_ite_pos (by rw [decide_eq_true_eq]; omega) (ev_ite_pos (by omega) hv)))
      by_cases f0 : f ≥ 0
      · by_cases f1 : f < 2 ^ b.toNat
        · exact ⟨decide (0 ≤ q ∧ q ≤ 40), it _ (ev_bind_some (within_eq _ _ _) (ev_ite_pos (by rw [decide_eq_true_eq]; omega) (ev_bind_some (within_eq _ _ _) (Ev.now _)))), sp _ (ev_ite_pos t0 (Ev.bind hT2 (ev_ite_pos t1 (ev_ite_pos f0 (ev_ite_pos (by omega) (ev_ite_pos f1 (ev_bind_some (in_eq _ _ _) (Ev.now _))))))))⟩
        · exact ⟨false, it _ (ev_bind_some (within_eq _ _ _) (ev_ite_neg (by rw [decide_eq_true_eq]; omega) (Ev.now _))), sp _ (ev_ite_pos t0 (Ev.bind hT2 (ev_ite_pos t1 (ev_ite_pos f0 (ev_ite_pos (by omega) (ev_ite_neg f1 (Ev.now _)))))))⟩
      · exact ⟨false, it _ (ev_bind_some (within_eq _ _ _) (ev_ite_neg (by rw [decide_eq_true_eq]; omega) (Ev.now _))), sp _ (ev_ite_pos t0 (Ev.bind hT2 (ev_ite_pos t1 (ev_ite_neg f0 (Ev.now _)))))⟩
    · exact ⟨false, im _ (ev_bind_some (within_eq _ _ _) (ev_ite_neg (by rw [decide_eq_true_eq]; omega) (Ev.now _))), sp _ (ev_ite_pos t0 (Ev.bind hT2 (ev_ite_neg t1 (Ev.now _))))⟩
  · exact ⟨false, im _ (ev_bind_some (within_eq _ _ _) (ev_ite_neg (by rw [decide_eq_true_eq]; omega) (Ev.now _))), sp _ (ev_ite_neg t0 (Ev.now _))⟩
theorem readhead_same (lv b : Int) (c r : List Int) (p0 : Int) (p1 p2 p3 : Bool) (s : ByteArray) (hc : c.length ≤ 2097152) (hr : r.length ≤ 2097152) (hs : s.size ≤ 400000) :
    ∃ t f q a ok, Ev (fun k => impl_ReadHead.f k lv b c r p0 p1 p2 p3 s) (t, f, q, a, ok) ∧ Ev (fun k => spec_ReadHead.f k lv b c r p0 p1 p2 p3 s) (t, f, q, a, ok) ∧ 0 ≤ a ∧ a ≤ (s.size : Int) := by
  obtain ⟨ro, ro1, ro2, ro3⟩ := rowok_same s
  have hsi := seqOk_impl lv b c r (by omega) (by omega)
  have hss := seqOk_spec lv b c r
  obtain ⟨pv, hpv⟩ := par_some p0 p1 p2 p3
  have hpi : impl_ParOk.f p0 p1 p2 p3 = some pv := (par_same _ _ _ _).trans hpv
  have sfail : Ev (fun k => spec_ReadHead.j0 k s true lv b c r p0 p1 p2 p3) (0, 0, 0, 0, false) := Ev.step (fun k => spec_ReadHead.j0.eq_2 s true lv b c r p0 p1 p2 p3 k) (ev_ite_pos rfl (Ev.now _))
  have ifail : ∀ a bd, Ev (fun k => impl_ReadHead.j0 k true lv b c r p0 p1 p2 p3 s a bd) (0, 0, 0, 0, false) := fun a bd => Ev.step (fun k => impl_ReadHead.j0.eq_2 true lv b c r p0 p1 p2 p3 s a bd k) (ev_ite_pos rfl (Ev.now _))
  have hopen : Ev (fun k => impl_opened.f k s 0) (s, 0, !ro) := by
    refine Ev.bind ro1 ?_
    cases ro with
    | true => exact ev_ite_pos rfl (ev_bind_some (within_eq _ _ _) (by rw [show decide ((0 : Int) ≤ 0 ∧ 0 ≤ (s.size : Int)) = true by rw [decide_eq_true_eq]; omega]; exact Ev.now _))
    | false => exact ev_ite_neg (by decide) (Ev.now _)
  cases hso : seqOk lv b c r with
  | false =>
    rw [hso] at hsi hss
    refine ⟨0, 0, 0, 0, false, Ev.bind hopen (Ev.bind hsi (ev_ite_neg (by decide) (ifail _ _))), Ev.bind ro2 ?_, by omega, by omega⟩
    cases ro with
    | true => exact ev_ite_pos rfl (Ev.bind hss (ev_ite_neg (by decide) sfail))
    | false => exact ev_ite_neg (by decide) sfail
  | true =>
    rw [hso] at hsi hss
    cases pv with
    | false =>
      refine ⟨0, 0, 0, 0, false, Ev.bind hopen (Ev.bind hsi (ev_ite_pos rfl (ev_bind_some hpi (ifail _ _)))), Ev.bind ro2 ?_, by omega, by omega⟩
      cases ro with
      | true => exact ev_ite_pos rfl (Ev.bind hss (ev_ite_pos rfl (ev_bind_some hpv sfail)))
      | false => exact ev_ite_neg (by decide) sfail
    | true =>
      have im : ∀ v, Ev (fun k => impl_ReadHead.j0 k false lv b c r p0 p1 p2 p3 s 0 (!ro)) v → Ev (fun k => impl_ReadHead.f k lv b c r p0 p1 p2 p3 s) v := fun v hv => Ev.bind hopen (Ev.bind hsi (ev_ite_pos rfl (ev_bind_some hpi hv)))
      cases ro with
      | false =>
        refine ⟨0, 0, 0, 0, false, im _ (Ev.step (fun k => impl_ReadHead.j0.eq_2 false lv b c r p0 p1 p2 p3 s 0 true k) (ev_ite_neg (by decide) (Ev.bind (ue_bad s 0) (Ev.bind (fix_bad s 0 b) (Ev.bind (se_bad s 0) (ev_ite_pos rfl (Ev.now _))))))), Ev.bind ro2 (ev_ite_neg (by decide) sfail), by omega, by omega⟩
      | true =>
        obtain ⟨hrow, _⟩ := ro3 rfl
        obtain ⟨hc4, hr4, hb3, hb8⟩ := seqOk_side lv b c r hso
        have sp : ∀ v, Ev (fun k => spec_ReadHead.j0 k s false lv b c r p0 p1 p2 p3) v → Ev (fun k => spec_ReadHead.f k lv b c r p0 p1 p2 p3 s) v := fun v hv => Ev.bind ro2 (ev_ite_pos rfl (Ev.bind hss (ev_ite_pos rfl (ev_bind_some hpv hv))))
        have im2 : ∀ (v : Int × Int × Int × Int × Bool) (n : Int) (p : Int × Bool), Ev (fun k => impl_scan_ue.f k s 0 false) (n, s, p.1, p.2) → Ev (fun k => (impl_scan_fix.f k s p.1 p.2 b).bind fun bt298 => ((impl_scan_se.f k bt298.2.1 bt298.2.2.1 bt298.2.2.2).bind fun bt302 => (if bt302.2.2.2 = true then (some (0, 0, 0, 0, false)) else ((impl_HeadOk.f k lv b c r p0 p1 p2 p3 n bt298.1 (wrap64 (bt302.1 + p0))).bind fun t306 => (if t306 = true then (some (n, bt298.1, wrap64 (bt302.1 + p0), bt302.2.2.1, true)) else (some (0, 0, 0, 0, false))))))) v → Ev (fun k => impl_ReadHead.f k lv b c r p0 p1 p2 p3 s) v :=
          fun v n p hu hv => im v (Ev.step (fun k => impl_ReadHead.j0.eq_2 false lv b c r p0 p1 p2 p3 s 0 false k) (ev_ite_neg (by decide) (Ev.bind hu hv)))
        have sp2 : ∀ (v : Int × Int × Int × Int × Bool) (n p : Int) (ok : Bool), Ev (fun k => spec_l03ReadUe.f k s 0) (n, p, ok) → Ev (fun k => if ok = true then ((spec_l02Read.f k s p b).bind fun bt196 => (if bt196.2.2 = true then ((spec_l03ReadSe.f k s bt196.2.1).bind fun bt199 => (if bt199.2.2 = true then ((spec_HeadOk.f k lv b c r p0 p1 p2 p3 n bt196.1 (wrap64 (p0 + bt199.1))).bind fun t203 => (if t203 = true then (some (n, bt196.1, wrap64 (p0 + bt199.1), bt199.2.1, true)) else (some (0, 0, 0, 0, false)))) else (some (0, 0, 0, 0, false)))) else (some (0, 0, 0, 0, false)))) else (some (0, 0, 0, 0, false))) v → Ev (fun k => spec_ReadHead.f k lv b c r p0 p1 p2 p3 s) v :=
          fun v n p ok hu hv => sp v (Ev.step (fun k => spec_ReadHead.j0.eq_2 s false lv b c r p0 p1 p2 p3 k) (ev_ite_neg (by decide) (Ev.bind hu hv)))
        rcases ue_same s hrow hs 0 (by omega) (by omega) with ⟨n, p, hn0, hn1, hp0, hp1, g1, g2⟩ | ⟨q, g1, g2⟩
        · by_cases hsh : (s.size : Int) - p < b
          · exact ⟨0, 0, 0, 0, false, im2 _ n (p, false) g2 (Ev.bind (fix_short s hs p b hp0 (by omega) hsh) (Ev.bind (se_bad s p) (ev_ite_pos rfl (Ev.now _)))), sp2 _ n p true g1 (ev_ite_pos rfl (Ev.bind (read_short s hs p b hp0 (by omega) hsh) (ev_ite_neg (by decide) (Ev.now _)))), by omega, by omega⟩
          · have f1 := fix_ev s hrow hs p b hp0 (by omega) (by omega) (by omega)
            have f2 := read_ev s hrow hs p b hp0 (by omega) (by omega) (by omega)
            rcases se_same s hrow hs (p + b) (by omega) (by omega) with ⟨d, e, hd0, hd1, he0, he1, k1, k2⟩ | ⟨d, q, k1, k2⟩
            · obtain ⟨v, v1, v2⟩ := headok_same lv b c r p0 p1 p2 p3 hso hpv n (rdBits s b.toNat p 0) (wrap64 (d + p0))
              cases v with
              | true => exact ⟨n, _, _, e, true, im2 _ n (p, false) g2 (Ev.bind f1 (Ev.bind k2 (ev_ite_neg (fun h => Bool.noConfusion h) (Ev.bind v1 (ev_ite_pos rfl (Ev.now _)))))), sp2 _ n p true g1 (ev_ite_pos rfl (Ev.bind f2 (ev_ite_pos rfl (Ev.bind k1 (ev_ite_pos rfl (by rw [Int.add_comm p0 d]; exact Ev.bind v2 (ev_ite_pos rfl (Ev.now _)))))))), by omega, by omega⟩
              | false => exact ⟨0, 0, 0, 0, false, im2 _ n (p, false) g2 (Ev.bind f1 (Ev.bind k2 (ev_ite_neg (fun h => Bool.noConfusion h) (Ev.bind v1 (ev_ite_neg (by decide) (Ev.now _)))))), sp2 _ n p true g1 (ev_ite_pos rfl (Ev.bind f2 (ev_ite_pos rfl (Ev.bind k1 (ev_ite_pos rfl (by rw [Int.add_comm p0 d]; exact Ev.bind v2 (ev_ite_neg (by decide) (Ev.now _)))))))), by omega, by omega⟩
            · exact ⟨0, 0, 0, 0, false, im2 _ n (p, false) g2 (Ev.bind f1 (Ev.bind k2 (ev_ite_pos rfl (Ev.now _)))), sp2 _ n p true g1 (ev_ite_pos rfl (Ev.bind f2 (ev_ite_pos rfl (Ev.bind k1 (ev_ite_neg (by decide) (Ev.now _)))))), by omega, by omega⟩
        · exact ⟨0, 0, 0, 0, false, im2 _ 0 (q, true) g2 (Ev.bind (fix_bad s q b) (Ev.bind (se_bad s q) (ev_ite_pos rfl (Ev.now _)))), sp2 _ 0 0 false g1 (ev_ite_neg (by decide) (Ev.now _)), by omega, by omega⟩
/-! ### rows out of bytes -/
/-- The sign at a place of a byte. -/
def b8 (b r : Int) : Int := (48 + (Go.bits .and .u8 (shr .u8 b (7 - r)) 1)) % 256
def bits8 (b : Int) : List Int := [b8 b 0, b8 b 1, b8 b 2, b8 b 3, b8 b 4, b8 b 5, b8 b 6, b8 b 7]
theorem byte_fix : ∀ b : Nat, b < 256 → spec_l02Fix.f 10 (b : Int) 8 = some (strOfNums (bits8 b)) := by decide +kernel
theorem byte_of : ∀ b : Nat, b < 256 → bytesOf (strOfNums (bits8 b)) = bits8 b := by decide +kernel
theorem byte_some : ∀ b : Nat, b < 256 → b ≠ 0 → ∃ r : Fin 8, b8 b ((r.val : Nat) : Int) ≠ 48 := by decide +kernel
theorem fix8 (b : Int) (h0 : 0 ≤ b) (h1 : b ≤ 255) : Ev (fun k => spec_l02Fix.f k b 8) (strOfNums (bits8 b)) := by
  have := byte_fix b.toNat (by omega)
  rw [show ((b.toNat : Nat) : Int) = b by omega] at this
  exact Ev.of (fun k => spec_l02Fix.mono b 8 k) this
/-- The sign at a place of a text, all its bytes' signs in a row. -/
def ibit (s : ByteArray) (i : Int) : Int := b8 (bt s (i / 8)) (i % 8)
def ibits (s : ByteArray) (m : Nat) : List Int := (List.range m).map fun i : Nat => ibit s (i : Int)
theorem ibits_len (s : ByteArray) (m : Nat) : (ibits s m).length = m := by simp [ibits]
theorem ibits_succ (s : ByteArray) (m : Nat) : ibits s (m + 1) = ibits s m ++ [ibit s (m : Int)] := by simp [ibits, List.range_succ]
theorem ibit_at (s : ByteArray) (j r : Nat) (h : r < 8) : ibit s ((8 * j + r : Nat) : Int) = b8 (bt s (j : Int)) (r : Int) := by
  unfold ibit
  rw [show ((8 * j + r : Nat) : Int) / 8 = (j : Int) by omega, show ((8 * j + r : Nat) : Int) % 8 = (r : Int) by omega]
theorem ibits_byte (s : ByteArray) (j : Nat) : ibits s (8 * (j + 1)) = ibits s (8 * j) ++ bits8 (bt s (j : Int)) := by
  rw [show 8 * (j + 1) = 8 * j + 7 + 1 by omega, ibits_succ, ibits_succ s (8 * j + 6), ibits_succ s (8 * j + 5), ibits_succ s (8 * j + 4), ibits_succ s (8 * j + 3), ibits_succ s (8 * j + 2), ibits_succ s (8 * j + 1), ibits_succ s (8 * j),
    ibit_at s j 7 (by omega), ibit_at s j 6 (by omega), ibit_at s j 5 (by omega), ibit_at s j 4 (by omega), ibit_at s j 3 (by omega), ibit_at s j 2 (by omega), ibit_at s j 1 (by omega), show 8 * j = 8 * j + 0 by omega, ibit_at s j 0 (by omega)]
  simp [bits8]
theorem rd_ibits (s : ByteArray) (m : Nat) (i : Int) (h0 : 0 ≤ i) (h1 : i < (m : Int)) : rd (ibits s m) i = ibit s i := by
  unfold rd
  rw [List.getD_eq_getElem?_getD, List.getElem?_eq_getElem (by rw [ibits_len]; omega)]
  simp [ibits, show ((i.toNat : Nat) : Int) = i by omega]
theorem bytesrow_impl (s : ByteArray) (hs : s.size ≤ 50001) (r : ByteArray × Bool) (hl : Ev (fun k => impl_BytesRow.l1 k (8 * (s.size : Int)) (ibits s (8 * s.size))) r) (d : Nat) : ∀ i : Nat, i + d = 8 * s.size → Ev (fun k => impl_BytesRow.l0 k s (8 * (s.size : Int)) (ibits s i) (i : Int)) r := by
  induction d with
  | zero =>
    intro i hi
    refine Ev.step (fun k => impl_BytesRow.l0.eq_2 s (8 * (s.size : Int)) (ibits s i) (i : Int) k) (ev_ite_neg (by omega) ?_)
    rw [show i = 8 * s.size by omega]; exact hl
  | succ d ih =>
    intro i hi
    have ht : Int.tmod (i : Int) 8 = (i : Int) % 8 := Int.tmod_eq_emod_of_nonneg (by omega)
    have hd : Int.tdiv (i : Int) 8 = (i : Int) / 8 := Int.tdiv_eq_ediv_of_nonneg (by omega)
    refine Ev.step (fun k => impl_BytesRow.l0.eq_2 s (8 * (s.size : Int)) (ibits s i) (i : Int) k) (ev_ite_pos (by omega) ?_)
    rw [hd, ht, w64 (x := (i : Int) / 8) (by omega) (by omega), w64 (x := 7 - (i : Int) % 8) (by omega) (by omega), w64 (x := (i : Int) + 1) (by omega) (by omega)]
    refine ev_ite_pos (by omega) (ev_ite_pos (by omega) (ev_ite_pos (by omega) (ev_ite_pos (by rw [ibits_len]; omega) ?_)))
    have := ih (i + 1) (by omega)
    rw [ibits_succ] at this
    exact this
theorem bytesrow_spec (s : ByteArray) (hs : s.size ≤ 50001) (r : ByteArray × Bool) (hl : Ev (fun k => spec_BytesRow.l1 k (ibits s (8 * s.size)) (8 * (s.size : Int))) r) (d : Nat) : ∀ j : Nat, j + d = s.size → Ev (fun k => spec_BytesRow.l0 k s (ibits s (8 * j)) (j : Int)) r := by
  induction d with
  | zero =>
    intro j hj
    refine Ev.step (fun k => spec_BytesRow.l0.eq_2 s (ibits s (8 * j)) (j : Int) k) (ev_ite_neg (by omega) ?_)
    rw [show j = s.size by omega, ibits_len, show ((8 * s.size : Nat) : Int) = 8 * (s.size : Int) by omega]; exact hl
  | succ d ih =>
    intro j hj
    have hb := bt_bounds s (j : Int)
    refine Ev.step (fun k => spec_BytesRow.l0.eq_2 s (ibits s (8 * j)) (j : Int) k) (ev_ite_pos (by omega) (ev_ite_pos (by omega) ?_))
    rw [w64 (x := bt s (j : Int)) (by omega) (by omega), w64 (x := (j : Int) + 1) (by omega) (by omega)]
    refine Ev.bind (fix8 _ hb.1 hb.2) (ev_ite_pos (by rw [ibits_len, strOfNums_size]; simp [bits8]; omega) ?_)
    have h8 := byte_of (bt s (j : Int)).toNat (by omega)
    rw [show (((bt s (j : Int)).toNat : Nat) : Int) = bt s (j : Int) by omega] at h8
    rw [h8, ← ibits_byte]
    exact ih (j + 1) (by omega)
theorem trim_same (L : List Int) (hL : L.length ≤ 400008) (n : Nat) : n ≤ L.length → (∃ j : Int, 0 ≤ j ∧ j < (n : Int) ∧ rd L j ≠ 48) →
    ∃ r, Ev (fun k => impl_BytesRow.l1 k (n : Int) L) r ∧ Ev (fun k => spec_BytesRow.l1 k L (n : Int)) r ∧ r.1.size ≤ 400000 := by
  induction n with
  | zero => intro h ⟨j, a, b, _⟩; omega
  | succ n ih =>
    intro h ⟨j, a, b, c⟩
    have hw : wrap64 (((n + 1 : Nat) : Int) - 1) = (n : Int) := by rw [w64 (by omega) (by omega)]; omega
    have im : ∀ r, Ev (fun k => if (rd L (n : Int)) = 48 then (impl_BytesRow.l1 k (n : Int) L) else (if (n : Int) > 400000 then (some ((⟨#[]⟩ : ByteArray), false)) else (if (n : Int) ≤ (L.length : Int) then (some (strOfNums (L.take ((n : Int) : Int).toNat), true)) else (none)))) r → Ev (fun k => impl_BytesRow.l1 k ((n + 1 : Nat) : Int) L) r := by
      intro r h1
      refine Ev.step (fun k => impl_BytesRow.l1.eq_2 ((n + 1 : Nat) : Int) L k) ?_
      rw [hw]; exact ev_ite_pos (by omega) (ev_ite_pos (by omega) h1)
    have sp : ∀ r, Ev (fun k => if (rd L (n : Int)) = 48 then (spec_BytesRow.l1 k L (n : Int)) else (if (n : Int) > 400000 then (some ((⟨#[]⟩ : ByteArray), false)) else (if (n : Int) ≤ (L.length : Int) then (some (strOfNums (L.take ((n : Int) : Int).toNat), true)) else (none)))) r → Ev (fun k => spec_BytesRow.l1 k L ((n + 1 : Nat) : Int)) r := by
      intro r h1
      refine Ev.step (fun k => spec_BytesRow.l1.eq_2 L ((n + 1 : Nat) : Int) k) (ev_ite_pos (by omega) ?_)
      rw [hw]; exact ev_ite_pos (by omega) (ev_ite_pos (by omega) h1)
    by_cases c48 : rd L (n : Int) = 48
    · obtain ⟨r, g1, g2, g3⟩ := ih (by omega) ⟨j, a, by
        by_cases e : j = (n : Int)
        · rw [e] at c; exact absurd c48 c
        · omega, c⟩
      exact ⟨r, im r (ev_ite_pos c48 g1), sp r (ev_ite_pos c48 g2), g3⟩
    · by_cases hbig : (n : Int) > 400000
      · exact ⟨_, im _ (ev_ite_neg c48 (ev_ite_pos hbig (Ev.now _))), sp _ (ev_ite_neg c48 (ev_ite_pos hbig (Ev.now _))), by decide⟩
      · refine ⟨_, im _ (ev_ite_neg c48 (ev_ite_neg hbig (ev_ite_pos (by omega) (Ev.now _)))), sp _ (ev_ite_neg c48 (ev_ite_neg hbig (ev_ite_pos (by omega) (Ev.now _)))), ?_⟩
        show (strOfNums (L.take ((n : Int)).toNat)).size ≤ 400000
        rw [strOfNums_size, List.length_take]; omega
theorem bytesrow_same (s : ByteArray) (hs : s.size ≤ 1048576) : ∃ r, Ev (fun k => impl_BytesRow.f k s) r ∧ Ev (fun k => spec_BytesRow.f k s) r ∧ r.1.size ≤ 400000 := by
  have hw8 : wrap64 (8 * (s.size : Int)) = 8 * (s.size : Int) := w64 (by omega) (by omega)
  have hwm : wrap64 ((s.size : Int) - 1) = (s.size : Int) - 1 := w64 (by omega) (by omega)
  have ib : Ev (fun k => impl_BytesRow.j0 k s (wrap64 (8 * (s.size : Int))) true) ((⟨#[]⟩ : ByteArray), false) := Ev.step (fun k => impl_BytesRow.j0.eq_2 s _ true k) (ev_ite_pos rfl (Ev.now _))
  have sb : Ev (fun k => spec_BytesRow.j0 k s true) ((⟨#[]⟩ : ByteArray), false) := Ev.step (fun k => spec_BytesRow.j0.eq_2 s true k) (ev_ite_pos rfl (Ev.now _))
  by_cases h0 : (s.size : Int) = 0
  · exact ⟨_, Ev.congr (fun k => if_pos (by rw [hw8]; omega)) ib, Ev.congr (fun k => if_pos h0) sb, by decide⟩
  · by_cases hz : bt s ((s.size : Int) - 1) = 0
    · refine ⟨_, Ev.congr (fun k => if_neg (by rw [hw8]; omega)) (ev_ite_pos (by rw [hwm]; omega) (ev_ite_pos (by rw [hwm]; omega) (ev_ite_pos (by rw [hwm]; exact hz) ib))), Ev.congr (fun k => if_neg h0) ?_, by decide⟩
      by_cases hb : (s.size : Int) > 50001
      · exact ev_ite_pos hb sb
      · refine ev_ite_neg hb (ev_ite_pos (by rw [hwm]; omega) (ev_ite_pos (by rw [hwm]; omega) ?_))
        rw [hwm, hz]; exact sb
    · have im := fun b r (h : Ev (fun k => impl_BytesRow.j0 k s (wrap64 (8 * (s.size : Int))) b) r) (hbb : decide ((wrap64 (8 * (s.size : Int))) > 400008) = b) =>
        Ev.congr (g := fun k => impl_BytesRow.f k s) (r := r) (fun k => if_neg (by rw [hw8]; omega)) (ev_ite_pos (by rw [hwm]; omega) (ev_ite_pos (by rw [hwm]; omega) (ev_ite_neg (by rw [hwm]; exact hz) (by rw [hbb]; exact h))))
      by_cases hb : (s.size : Int) > 50001
      · exact ⟨_, im true _ ib (by rw [hw8, decide_eq_true_eq]; omega), Ev.congr (fun k => if_neg h0) (ev_ite_pos hb sb), by decide⟩
      · have hbt := bt_bounds s ((s.size : Int) - 1)
        obtain ⟨rr, hrr⟩ := byte_some (bt s ((s.size : Int) - 1)).toNat (by omega) (by omega)
        have hlt := rr.isLt
        have hex : ∃ j : Int, 0 ≤ j ∧ j < ((8 * s.size : Nat) : Int) ∧ rd (ibits s (8 * s.size)) j ≠ 48 := by
          refine ⟨((8 * (s.size - 1) + rr.val : Nat) : Int), by omega, by omega, ?_⟩
          rw [rd_ibits s _ _ (by omega) (by omega), ibit_at s _ _ hlt, show ((s.size - 1 : Nat) : Int) = (s.size : Int) - 1 by omega]
          rw [show (((bt s ((s.size : Int) - 1)).toNat : Nat) : Int) = bt s ((s.size : Int) - 1) by omega] at hrr
          exact hrr
        obtain ⟨r, g1, g2, g3⟩ := trim_same (ibits s (8 * s.size)) (by rw [ibits_len]; omega) (8 * s.size) (by rw [ibits_len]; omega) hex
        rw [show ((8 * s.size : Nat) : Int) = 8 * (s.size : Int) by omega] at g1 g2
        have i1 := bytesrow_impl s (by omega) r g1 (8 * s.size) 0 (by omega)
        have s1 := bytesrow_spec s (by omega) r g2 s.size 0 (by omega)
        refine ⟨r, im false r ?_ (by rw [hw8, decide_eq_false_iff_not]; omega), Ev.congr (fun k => if_neg h0) (ev_ite_neg hb (ev_ite_pos (by rw [hwm]; omega) (ev_ite_pos (by rw [hwm]; omega) ?_))), g3⟩
        · refine Ev.step (fun k => impl_BytesRow.j0.eq_2 s _ false k) (ev_ite_neg (by decide) (ev_ite_pos (by rw [hw8]; omega) (ev_ite_pos (by rw [hw8]; omega) ?_)))
          rw [hw8]; exact i1
        · rw [hwm, show (bt s ((s.size : Int) - 1) == 0) = false by simpa using hz]
          exact Ev.step (fun k => spec_BytesRow.j0.eq_2 s false k) (ev_ite_neg (by decide) s1)
/-! ### parts out of units -/
theorem unitin_same (s : ByteArray) (hs : s.size ≤ 1048576) : ∃ n row ok, Ev (fun k => impl_UnitIn.f k s) (n, row, ok) ∧ Ev (fun k => spec_UnitIn.f k s) (n, row, ok) ∧ row.size ≤ 400000 := by
  have ib : Ev (fun k => impl_UnitIn.j0 k s true) (0, (⟨#[]⟩ : ByteArray), false) := Ev.step (fun k => impl_UnitIn.j0.eq_2 s true k) (ev_ite_pos rfl (Ev.now _))
  have sb : Ev (fun k => spec_UnitIn.j0 k s true) (0, (⟨#[]⟩ : ByteArray), false) := Ev.step (fun k => spec_UnitIn.j0.eq_2 s true k) (ev_ite_pos rfl (Ev.now _))
  have hl : s.toList.length = s.size := by rw [ByteArray.toList_eq]; exact data_length s
  by_cases h0 : s.toList = ([] : List UInt8)
  · have hz : s.size = 0 := by rw [← hl, h0]; rfl
    exact ⟨_, _, _, Ev.congr (fun k => if_pos h0) ib, Ev.congr (fun k => if_pos (by omega)) sb, by decide⟩
  · have hz : 0 < s.size := by
      rcases Nat.eq_zero_or_pos s.size with h | h
      · exact absurd (List.eq_nil_of_length_eq_zero (by omega)) h0
      · exact h
    have hk : ∃ b, spec_l07Kind.f (wrap64 (bt s 0)) = some b := by
      unfold spec_l07Kind.f
      split
      · exact ⟨_, rfl⟩
      · split
        · exact ⟨_, rfl⟩
        · split
          · exact ⟨_, rfl⟩
          · exact ⟨_, rfl⟩
    obtain ⟨b, hb⟩ := hk
    have im : ∀ r, Ev (fun k => impl_UnitIn.j0 k s (!b)) r → Ev (fun k => impl_UnitIn.f k s) r := fun r h => Ev.congr (fun k => if_neg h0) (ev_ite_pos (by omega) (ev_bind_some ((kind_same _).trans hb) h))
    have sp : ∀ r, Ev (fun k => spec_UnitIn.j0 k s (!b)) r → Ev (fun k => spec_UnitIn.f k s) r := fun r h => Ev.congr (fun k => if_neg (by omega)) (ev_ite_pos (by omega) (ev_bind_some hb h))
    cases b with
    | false => exact ⟨_, _, _, im _ ib, sp _ sb, by decide⟩
    | true =>
      obtain ⟨⟨row, ok⟩, g1, g2, g3⟩ := bytesrow_same (s.extract 1 s.size) (by rw [ByteArray.size_extract]; omega)
      cases ok with
      | true => exact ⟨_, row, true, im _ (Ev.step (fun k => impl_UnitIn.j0.eq_2 s false k) (ev_ite_neg (by decide) (ev_ite_pos (by omega) (Ev.bind g1 (ev_ite_pos rfl (ev_ite_pos (by omega) (Ev.now _))))))), sp _ (Ev.step (fun k => spec_UnitIn.j0.eq_2 s false k) (ev_ite_neg (by decide) (ev_ite_pos (by omega) (Ev.bind g2 (ev_ite_pos rfl (ev_ite_pos (by omega) (Ev.now _))))))), g3⟩
      | false => exact ⟨_, _, _, im _ (Ev.step (fun k => impl_UnitIn.j0.eq_2 s false k) (ev_ite_neg (by decide) (ev_ite_pos (by omega) (Ev.bind g1 (ev_ite_neg (fun h => Bool.noConfusion h) (Ev.now _)))))), sp _ (Ev.step (fun k => spec_UnitIn.j0.eq_2 s false k) (ev_ite_neg (by decide) (ev_ite_pos (by omega) (Ev.bind g2 (ev_ite_neg (fun h => Bool.noConfusion h) (Ev.now _)))))), by decide⟩
theorem partin_same (lv b : Int) (c r : List Int) (p0 : Int) (p1 p2 p3 : Bool) (s : ByteArray) (hc : c.length ≤ 2097152) (hr : r.length ≤ 2097152) (hs : s.size ≤ 1048576) :
    ∃ v, Ev (fun k => impl_PartIn.f k lv b c r p0 p1 p2 p3 s) v ∧ Ev (fun k => spec_PartIn.f k lv b c r p0 p1 p2 p3 s) v ∧ v.2.2.2.2.2.1.size ≤ 400000 := by
  obtain ⟨n, row, ok, g1, g2, g3⟩ := unitin_same s hs
  obtain ⟨t, f, q, a, fine, k1, k2, k3, k4⟩ := readhead_same lv b c r p0 p1 p2 p3 row hc hr g3
  have sb : Ev (fun k => spec_PartIn.j0 k n row true lv b c r p0 p1 p2 p3) (0, 0, 0, false, 0, (⟨#[]⟩ : ByteArray), false) := Ev.step (fun k => spec_PartIn.j0.eq_2 n row true lv b c r p0 p1 p2 p3 k) (ev_ite_pos rfl (Ev.now _))
  cases ok with
  | false => exact ⟨_, Ev.bind g1 (Ev.bind k1 (ev_ite_neg (fun h => Bool.noConfusion h) (Ev.now _))), Ev.bind g2 (ev_ite_neg (fun h => Bool.noConfusion h) sb), by decide⟩
  | true =>
    have sp : ∀ v, Ev (fun k => spec_PartIn.j0 k n row (decide (n ≠ 5) && decide (n ≠ 1)) lv b c r p0 p1 p2 p3) v → Ev (fun k => spec_PartIn.f k lv b c r p0 p1 p2 p3 s) v := by
      intro v hv
      refine Ev.bind g2 (ev_ite_pos rfl ?_)
      by_cases h5 : n = 5
      · refine ev_ite_pos h5 ?_
        rw [show (decide (n ≠ 5) && decide (n ≠ 1)) = false by simp [h5]] at hv; exact hv
      · refine ev_ite_neg h5 ?_
        rw [show (decide (n ≠ 5) && decide (n ≠ 1)) = (n != 1) by
          by_cases h1 : n = 1
          · simp [h1]
          · simp [h5, h1]] at hv; exact hv
    have sz : (row.extract a.toNat row.size).size ≤ 400000 := by rw [ByteArray.size_extract]; omega
    cases fine with
    | false =>
      by_cases hn : n = 5 ∨ n = 1
      · refine ⟨_, Ev.bind g1 (Ev.bind k1 (ev_ite_pos rfl (ev_ite_neg (fun h => Bool.noConfusion h) (Ev.now _)))), sp _ ?_, by decide⟩
        rw [show (decide (n ≠ 5) && decide (n ≠ 1)) = false by rcases hn with h | h <;> simp [h]]
        exact Ev.step (fun k => spec_PartIn.j0.eq_2 n row false lv b c r p0 p1 p2 p3 k) (ev_ite_neg (by decide) (Ev.bind k2 (ev_ite_neg (fun h => Bool.noConfusion h) (Ev.now _))))
      · refine ⟨_, Ev.bind g1 (Ev.bind k1 (ev_ite_pos rfl (ev_ite_neg (fun h => Bool.noConfusion h) (Ev.now _)))), sp _ ?_, by decide⟩
        rw [show (decide (n ≠ 5) && decide (n ≠ 1)) = true by
          have h5 : n ≠ 5 := fun h => hn (.inl h)
          have h1 : n ≠ 1 := fun h => hn (.inr h)
          simp [h5, h1]]
        exact sb
    | true =>
      have im : ∀ v, _ → Ev (fun k => impl_PartIn.f k lv b c r p0 p1 p2 p3 s) v := fun v hv => Ev.bind g1 (Ev.bind k1 (ev_ite_pos rfl (ev_ite_pos rfl hv)))
      have good : ∀ (d : Bool), d = (n == 5) → Ev (fun k => if 0 ≤ a then (if a ≤ (row.size : Int) then (some (t, f, q, d, q, row.extract (a : Int).toNat row.size, true)) else (none)) else (none)) (t, f, q, (n == 5), q, row.extract (a : Int).toNat row.size, true) := fun d hd => by
        subst hd; exact ev_ite_pos k3 (ev_ite_pos k4 (Ev.now _))
      have sgood : (decide (n ≠ 5) && decide (n ≠ 1)) = false → Ev (fun k => spec_PartIn.f k lv b c r p0 p1 p2 p3 s) (t, f, q, (n == 5), q, row.extract (a : Int).toNat row.size, true) := fun h => sp _ (by
        rw [h]; exact Ev.step (fun k => spec_PartIn.j0.eq_2 n row false lv b c r p0 p1 p2 p3 k) (ev_ite_neg (by decide) (Ev.bind k2 (ev_ite_pos rfl (good _ rfl)))))
      by_cases h5 : n = 5
      · exact ⟨_, im _ (ev_ite_pos h5 (good _ rfl)), sgood (by simp [h5]), sz⟩
      · by_cases h1 : n = 1
        · exact ⟨_, im _ (ev_ite_neg h5 (ev_ite_pos h1 (good _ rfl))), sgood (by simp [h1]), sz⟩
        · exact ⟨_, im _ (ev_ite_neg h5 (ev_ite_neg h1 (Ev.now _))), sp _ (by rw [show (decide (n ≠ 5) && decide (n ≠ 1)) = true by simp [h5, h1]]; exact sb), by decide⟩
/-! ### rows of texts -/
theorem toStrs_loop (xs : List ByteArray) (hx : xs.length ≤ 1099511627776) (d : Nat) : ∀ (ys : List ByteArray) (i : Int), 0 ≤ i → i ≤ (xs.length : Int) → (xs.length : Int) - i = d → ys.length = xs.length → (∀ j : Nat, (j : Int) < i → ys[j]? = xs[j]?) →
    Ev (fun k => laws_toStringS.l0 k xs ys i) xs := by
  induction d with
  | zero =>
    intro ys i h0 h1 hd hl he
    have e : ys = xs := List.ext_getElem? fun j => by
      by_cases hj : j < xs.length
      · exact he j (by omega)
      · rw [List.getElem?_eq_none (by omega), List.getElem?_eq_none (by omega)]
    subst e
    exact Ev.step (fun k => laws_toStringS.l0.eq_2 ys ys i k) (ev_ite_neg (by omega) (Ev.now _))
  | succ d ih =>
    intro ys i h0 h1 hd hl he
    refine Ev.step (fun k => laws_toStringS.l0.eq_2 xs ys i k) (ev_ite_pos (by omega) (ev_ite_pos h0 (ev_ite_pos (by omega) ?_)))
    rw [w64 (by omega) (by omega)]
    refine ih _ (i + 1) (by omega) (by omega) (by omega) (by rw [List.length_set]; exact hl) (fun j hj => ?_)
    rw [List.getElem?_set]
    by_cases e : i.toNat = j
    · rw [if_pos e, if_pos (by omega), ← e, List.getElem?_eq_getElem (by omega)]
      unfold rdOf
      rw [List.getD_eq_getElem?_getD, List.getElem?_eq_getElem (by omega)]; rfl
    · rw [if_neg e]; exact he j (by omega)
theorem toStrs_ev (xs : List ByteArray) (hx : xs.length ≤ 2097152) : Ev (fun k => laws_toStringS.f k xs) xs := by
  refine Ev.congr (fun k => if_pos (by omega)) (ev_ite_pos (by omega) ?_)
  exact toStrs_loop xs (by omega) xs.length _ 0 (by omega) (by omega) (by omega) (by simp) (fun j hj => by omega)
theorem eqstrs_loop (xs : List ByteArray) (hx : xs.length ≤ 1099511627776) (d : Nat) : ∀ i : Int, 0 ≤ i → i ≤ (xs.length : Int) → (xs.length : Int) - i = d → Ev (fun k => laws_eqStringS.l0 k xs xs i) true := by
  induction d with
  | zero =>
    intro i h0 h1 hd
    exact Ev.step (fun k => laws_eqStringS.l0.eq_2 xs xs i k) (ev_ite_neg (by omega) (Ev.now _))
  | succ d ih =>
    intro i h0 h1 hd
    refine Ev.step (fun k => laws_eqStringS.l0.eq_2 xs xs i k) (ev_ite_pos (by omega) (ev_ite_pos h0 (ev_ite_pos (by omega) (ev_ite_pos rfl ?_))))
    rw [w64 (by omega) (by omega)]; exact ih (i + 1) (by omega) (by omega) (by omega)
theorem eqstrs_self (xs : List ByteArray) (hx : xs.length ≤ 1099511627776) : Ev (fun k => laws_eqStringS.f k xs xs) true :=
  Ev.congr (fun k => if_pos rfl) (eqstrs_loop xs hx xs.length 0 (by omega) (by omega) (by omega))
/-- Either the sizes that are left run out, or each text is no longer than they were. -/
theorem szstrs_loop (xs : List ByteArray) (hx : xs.length ≤ 1099511627776) (hy : ∀ y ∈ xs, y.size ≤ maxLen) (d : Nat) : ∀ (n i : Int), 0 ≤ i → i ≤ (xs.length : Int) → (xs.length : Int) - i = d → 0 ≤ n → n ≤ 1048576 →
    ∃ v, Ev (fun k => laws_szStringS.l0 k xs n i) v ∧ (v < 0 ∨ 0 ≤ v ∧ v ≤ n ∧ ∀ j : Int, i ≤ j → j < (xs.length : Int) → ((rdOf ByteArray.empty xs j).size : Int) ≤ n) := by
  simp only [maxLen] at hy
  induction d with
  | zero =>
    intro n i h0 h1 hd hn hn1
    exact ⟨n, Ev.step (fun k => laws_szStringS.l0.eq_2 xs n i k) (ev_ite_neg (by omega) (Ev.now _)), .inr ⟨hn, by omega, fun j a b => by omega⟩⟩
  | succ d ih =>
    intro n i h0 h1 hd hn hn1
    have hlt : i < (xs.length : Int) := by omega
    have hsz : (rdOf ByteArray.empty xs i).size ≤ 9223372036854775807 := by
      unfold rdOf
      rw [List.getD_eq_getElem?_getD, List.getElem?_eq_getElem (by omega)]
      exact hy _ (List.getElem_mem _)
    have hw : wrap64 (n - ((rdOf ByteArray.empty xs i).size : Int)) = n - ((rdOf ByteArray.empty xs i).size : Int) := w64 (by omega) (by omega)
    by_cases hneg : n - ((rdOf ByteArray.empty xs i).size : Int) < 0
    · exact ⟨-1, Ev.step (fun k => laws_szStringS.l0.eq_2 xs n i k) (ev_ite_pos hlt (ev_ite_pos h0 (ev_ite_pos (by rw [hw]; exact hneg) (Ev.now _)))), .inl (by omega)⟩
    · obtain ⟨v, g1, g2⟩ := ih (n - ((rdOf ByteArray.empty xs i).size : Int)) (i + 1) (by omega) (by omega) (by omega) (by omega) (by omega)
      refine ⟨v, Ev.step (fun k => laws_szStringS.l0.eq_2 xs n i k) (ev_ite_pos hlt (ev_ite_pos h0 (ev_ite_neg (by rw [hw]; exact hneg) ?_))), ?_⟩
      · rw [hw, w64 (x := i + 1) (by omega) (by omega)]; exact g1
      · rcases g2 with g | ⟨g3, g4, g5⟩
        · exact .inl g
        · refine .inr ⟨g3, by omega, fun j a b => ?_⟩
          by_cases e : j = i
          · rw [e]; omega
          · have := g5 j (by omega) b; omega
theorem szstrs (xs : List ByteArray) (n : Int) (hl : xs.length ≤ maxLen) (hy : ∀ y ∈ xs, y.size ≤ maxLen) (hn : 0 ≤ n) (hn1 : n ≤ 1048576) :
    ∃ v, Ev (fun k => laws_szStringS.f k xs n) v ∧ (v < 0 ∨ 0 ≤ v ∧ v ≤ n ∧ (xs.length : Int) ≤ n ∧ ∀ j : Int, 0 ≤ j → j < (xs.length : Int) → ((rdOf ByteArray.empty xs j).size : Int) ≤ n) := by
  have hl' : xs.length ≤ 9223372036854775807 := hl
  have hw : wrap64 (n - (xs.length : Int)) = n - (xs.length : Int) := w64 (by omega) (by omega)
  by_cases hneg : n - (xs.length : Int) < 0
  · exact ⟨-1, Ev.congr (fun k => if_pos (by rw [hw]; exact hneg)) (Ev.now _), .inl (by omega)⟩
  · obtain ⟨v, g1, g2⟩ := szstrs_loop xs (by omega) hy xs.length (n - (xs.length : Int)) 0 (by omega) (by omega) (by omega) (by omega) (by omega)
    refine ⟨v, Ev.congr (fun k => if_neg (by rw [hw]; exact hneg)) (by rw [hw]; exact g1), ?_⟩
    rcases g2 with g | ⟨g3, g4, g5⟩
    · exact .inl g
    · exact .inr ⟨g3, by omega, by omega, fun j a b => by have := g5 j a b; omega⟩
/-! ### marks -/
theorem marktext_loop (d : Nat) : ∀ (x : Int) (t : ByteArray), 0 ≤ x → x ≤ d → x ≤ 4000000000000000000 → (t.size : Int) + x ≤ 4000000000000000000 → ∃ r, Ev (fun k => laws_markText.l0 k x t) r := by
  induction d with
  | zero =>
    intro x t h0 h1 h2 h3
    exact ⟨_, Ev.step (fun k => laws_markText.l0.eq_2 x t k) (ev_ite_neg (by omega) (ev_ite_pos (by omega) (Ev.now _)))⟩
  | succ d ih =>
    intro x t h0 h1 h2 h3
    by_cases hx : x > 0
    · have ht : Int.tdiv x 10 = x / 10 := Int.tdiv_eq_ediv_of_nonneg h0
      have hw : wrap64 (Int.tdiv x 10) = x / 10 := by rw [ht]; exact w64 (by omega) (by omega)
      have hs : ∀ c : Int, (strOfNums [c]).size = 1 := fun c => by rw [strOfNums_size]; rfl
      obtain ⟨r, g⟩ := ih (x / 10) (strOfNums [(wrap64 (48 + (Int.tmod x 10))) % 256] ++ t) (by omega) (by omega) (by omega) (by rw [ByteArray.size_append, hs]; omega)
      refine ⟨r, Ev.step (fun k => laws_markText.l0.eq_2 x t k) (ev_ite_pos hx (ev_bind_some rfl (ev_ite_pos (by rw [hs]; omega) ?_)))⟩
      rw [hw]; exact g
    · exact ⟨_, Ev.step (fun k => laws_markText.l0.eq_2 x t k) (ev_ite_neg hx (ev_ite_pos (by omega) (Ev.now _)))⟩
theorem marktext_ev (x : Int) : ∃ r, x ≤ 4000000000000000000 → Ev (fun k => laws_markText.f k x) r := by
  by_cases h : x ≤ 0
  · exact ⟨_, fun _ => Ev.congr (fun k => if_pos h) (Ev.now _)⟩
  · by_cases h2 : x ≤ 4000000000000000000
    · have hz : (⟨#[]⟩ : ByteArray).size = 0 := rfl
      obtain ⟨r, g⟩ := marktext_loop x.toNat x (⟨#[]⟩ : ByteArray) (by omega) (by omega) h2 (by rw [hz]; omega)
      exact ⟨r, fun _ => Ev.congr (fun k => if_neg h) g⟩
    · exact ⟨⟨#[]⟩, fun h3 => absurd h3 h2⟩
/-- The text that marks a number. -/
noncomputable def markOf (x : Int) : ByteArray := Classical.choose (marktext_ev x)
theorem markOf_ev (x : Int) (h : x ≤ 4000000000000000000) : Ev (fun k => laws_markText.f k x) (markOf x) := Classical.choose_spec (marktext_ev x) h
theorem markstrs_loop (d : Nat) : ∀ (xs : List ByteArray) (K i : Int), xs.length ≤ 1099511627776 → 0 ≤ K → K ≤ 1099511627776 → 0 ≤ i → i ≤ (xs.length : Int) → (xs.length : Int) - i = d →
    ∃ ys, Ev (fun k => laws_markStringS.l0 k xs (K + i) i) (K + (xs.length : Int), ys) ∧ ys.length = xs.length := by
  induction d with
  | zero =>
    intro xs K i hx hK hK1 h0 h1 hd
    have e : i = (xs.length : Int) := by omega
    refine ⟨xs, Ev.step (fun k => laws_markStringS.l0.eq_2 xs (K + i) i k) (ev_ite_neg (by omega) ?_), rfl⟩
    rw [e]; exact Ev.now _
  | succ d ih =>
    intro xs K i hx hK hK1 h0 h1 hd
    obtain ⟨ys, g1, g2⟩ := ih (xs.set (i : Int).toNat (markOf (K + i))) K (i + 1) (by rw [List.length_set]; exact hx) hK hK1 (by omega) (by rw [List.length_set]; omega) (by rw [List.length_set]; omega)
    rw [List.length_set] at g1 g2
    refine ⟨ys, Ev.step (fun k => laws_markStringS.l0.eq_2 xs (K + i) i k) (ev_ite_pos (by omega) (Ev.bind (markOf_ev (K + i) (by omega)) (ev_ite_pos h0 ?_))), g2⟩
    rw [w64 (x := K + i + 1) (by omega) (by omega), w64 (x := i + 1) (by omega) (by omega), show K + i + 1 = K + (i + 1) by omega]
    exact g1
theorem markstrs_ev (xs : List ByteArray) (hx : xs.length ≤ 1099511627776) (K : Int) (hK : 0 ≤ K) (hK1 : K ≤ 1099511627776) : ∃ ys, Ev (fun k => laws_markStringS.f k xs K) (K + (xs.length : Int), ys) ∧ ys.length = xs.length := by
  obtain ⟨ys, g1, g2⟩ := markstrs_loop xs.length xs K 0 hx hK hK1 (by omega) (by omega) (by omega)
  rw [show K + (0 : Int) = K by omega] at g1
  exact ⟨ys, g1, g2⟩
/-! ### rows of parts -/
theorem eqpart_self (a : Bool) (b : Int) (s : ByteArray) : laws_eqPart.f a b s a b s = some true := by
  unfold laws_eqPart.f
  rw [if_neg (by simp), if_pos rfl, if_pos rfl]
theorem eqparts_loop (xs : List S112) (hx : xs.length ≤ 1099511627776) (d : Nat) : ∀ i : Int, 0 ≤ i → i ≤ (xs.length : Int) → (xs.length : Int) - i = d → Ev (fun k => laws_eqPartS.l0 k xs xs i) true := by
  induction d with
  | zero =>
    intro i h0 h1 hd
    exact Ev.step (fun k => laws_eqPartS.l0.eq_2 xs xs i k) (ev_ite_neg (by omega) (Ev.now _))
  | succ d ih =>
    intro i h0 h1 hd
    refine Ev.step (fun k => laws_eqPartS.l0.eq_2 xs xs i k) (ev_ite_pos (by omega) (ev_ite_pos h0 (ev_ite_pos (by omega) (ev_bind_some (eqpart_self _ _ _) (ev_ite_pos rfl ?_)))))
    rw [w64 (by omega) (by omega)]; exact ih (i + 1) (by omega) (by omega) (by omega)
theorem eqparts_self (xs : List S112) (hx : xs.length ≤ 1099511627776) : Ev (fun k => laws_eqPartS.f k xs xs) true :=
  Ev.congr (fun k => if_pos rfl) (eqparts_loop xs hx xs.length 0 (by omega) (by omega) (by omega))
theorem rd_pt_set (xs : List S112) (i j : Int) (v : S112) (h0 : 0 ≤ i) (h1 : i < (xs.length : Int)) (hj : 0 ≤ j) : rd_T112 (xs.set (i : Int).toNat v) j = if j = i then v else rd_T112 xs j := by
  unfold rd_T112
  rw [List.getD_eq_getElem?_getD, List.getD_eq_getElem?_getD, List.getElem?_set]
  by_cases h : j = i
  · subst h; rw [if_pos rfl, if_pos rfl, if_pos (by omega)]; rfl
  · rw [if_neg (by omega), if_neg h]
/-- The mark of a part. -/
noncomputable def ptMark (K : Int) : S112 := ⟨((Int.tmod K 3) == 0), K + 1, markOf (K + 2)⟩
def MarkedP (xs : List S112) (K n : Int) : Prop := ∀ j : Int, 0 ≤ j → j < n → rd_T112 xs j = ptMark (K + 3 * j)
theorem markP_loop (K : Int) (hK : 0 ≤ K) (hK1 : K ≤ 1099511627776) (d : Nat) : ∀ (xs : List S112) (i : Int), xs.length ≤ 1099511627776 → 0 ≤ i → i ≤ (xs.length : Int) → (xs.length : Int) - i = d → MarkedP xs K i →
    ∃ ys, Ev (fun k => laws_markPartS.l0 k xs (K + 3 * i) i) (K + 3 * (xs.length : Int), ys) ∧ ys.length = xs.length ∧ MarkedP ys K (xs.length : Int) := by
  induction d with
  | zero =>
    intro xs i hx h0 h1 hd hm
    have e : i = (xs.length : Int) := by omega
    refine ⟨xs, ?_, rfl, by rw [e] at hm; exact hm⟩
    refine Ev.step (fun k => laws_markPartS.l0.eq_2 xs _ i k) (ev_ite_neg (by omega) ?_)
    rw [e]; exact Ev.now _
  | succ d ih =>
    intro xs i hx h0 h1 hd hm
    have hlt : i < (xs.length : Int) := by omega
    have hw : wrap64 (i + 1) = i + 1 := w64 (by omega) (by omega)
    have e1 : wrap64 (K + 3 * i + 1) = K + 3 * i + 1 := w64 (by omega) (by omega)
    have e2 : wrap64 (K + 3 * i + 1 + 1) = K + 3 * i + 2 := by rw [w64 (by omega) (by omega)]; omega
    have e3 : wrap64 (K + 3 * i + 2 + 1) = K + 3 * (i + 1) := by rw [w64 (by omega) (by omega)]; omega
    obtain ⟨ys, g1, g2, g3⟩ := ih (xs.set (i : Int).toNat (ptMark (K + 3 * i))) (i + 1) (by rw [List.length_set]; exact hx) (by omega) (by rw [List.length_set]; omega) (by rw [List.length_set]; omega) (by
      intro j hj0 hj1
      rw [rd_pt_set xs i j _ h0 hlt hj0]
      by_cases hj : j = i
      · subst hj; rw [if_pos rfl]
      · rw [if_neg hj]; exact hm j hj0 (by omega))
    rw [List.length_set] at g1 g2 g3
    refine ⟨ys, ?_, g2, g3⟩
    refine Ev.step (fun k => laws_markPartS.l0.eq_2 xs _ i k) (ev_ite_pos hlt (ev_ite_pos h0 ?_))
    refine ev_bind_some rfl (ev_bind_some rfl ?_)
    have hs : ∀ (zs : List S112) (v : S112), zs.length = xs.length → rd_T112 (zs.set (i : Int).toNat v) i = v := fun zs v hz => by rw [rd_pt_set zs i i v h0 (by rw [hz]; exact hlt) h0, if_pos rfl]
    simp only [List.set_set, hs xs _ rfl, e1, e2, e3, hw]
    exact Ev.bind (markOf_ev (K + 3 * i + 2) (by omega)) g1
theorem marksP_held (xs : List S112) (K : Int) (hK : 0 ≤ K) (hK1 : K ≤ 1099511627776) (hx : xs.length ≤ 1099511627776) (hm : MarkedP xs K (xs.length : Int)) (d : Nat) : ∀ i : Int, 0 ≤ i → i ≤ (xs.length : Int) → (xs.length : Int) - i = d →
    Ev (fun k => laws_heldPartS.l0 k xs (K + 3 * i) i) (K + 3 * (xs.length : Int)) := by
  induction d with
  | zero =>
    intro i h0 h1 hd
    have e : i = (xs.length : Int) := by omega
    refine Ev.step (fun k => laws_heldPartS.l0.eq_2 xs _ i k) (ev_ite_neg (by omega) ?_)
    rw [e]; exact Ev.now _
  | succ d ih =>
    intro i h0 h1 hd
    have hlt : i < (xs.length : Int) := by omega
    have hw : wrap64 (i + 1) = i + 1 := w64 (by omega) (by omega)
    have e1 : wrap64 (K + 3 * i + 1) = K + 3 * i + 1 := w64 (by omega) (by omega)
    have e2 : wrap64 (K + 3 * i + 1 + 1) = K + 3 * i + 2 := by rw [w64 (by omega) (by omega)]; omega
    have e3 : wrap64 (K + 3 * i + 2 + 1) = K + 3 * (i + 1) := by rw [w64 (by omega) (by omega)]; omega
    refine Ev.step (fun k => laws_heldPartS.l0.eq_2 xs _ i k) (ev_ite_pos hlt (ev_ite_pos h0 ?_))
    rw [hm i h0 hlt, e1, e2, e3, hw]
    exact ev_ite_neg (by simp [ptMark]) (ev_ite_pos rfl (Ev.bind (markOf_ev (K + 3 * i + 2) (by omega)) (ev_ite_pos rfl (ih (i + 1) (by omega) (by omega) (by omega)))))
theorem markP_held (xs : List S112) (hx : xs.length ≤ 1099511627776) (K : Int) (hK : 0 ≤ K) (hK1 : K ≤ 1099511627776) : ∃ ys, Ev (fun k => laws_markPartS.f k xs K) (K + 3 * (xs.length : Int), ys) ∧ Ev (fun k => laws_heldPartS.f k ys K) (K + 3 * (xs.length : Int)) := by
  obtain ⟨ys, g1, g2, g3⟩ := markP_loop K hK hK1 xs.length xs 0 hx (by omega) (by omega) (by omega) (fun j h h' => by omega)
  have g4 := marksP_held ys K hK hK1 (by omega) (by rw [g2]; exact g3) ys.length 0 (by omega) (by omega) (by omega)
  rw [g2] at g4
  rw [show K + 3 * (0 : Int) = K by omega] at g1 g4
  exact ⟨ys, g1, g4⟩
theorem markI_lenloop (d : Nat) : ∀ (xs : List Int) (K i : Int), xs.length ≤ 1099511627776 → 0 ≤ K → K ≤ 1099511627776 → 0 ≤ i → i ≤ (xs.length : Int) → (xs.length : Int) - i = d →
    ∃ ys, Ev (fun k => laws_markIntS.l0 k xs (K + i) i) (K + (xs.length : Int), ys) ∧ ys.length = xs.length := by
  induction d with
  | zero =>
    intro xs K i hx hK hK1 h0 h1 hd
    have e : i = (xs.length : Int) := by omega
    refine ⟨xs, Ev.step (fun k => laws_markIntS.l0.eq_2 xs (K + i) i k) (ev_ite_neg (by omega) ?_), rfl⟩
    rw [e]; exact Ev.now _
  | succ d ih =>
    intro xs K i hx hK hK1 h0 h1 hd
    obtain ⟨ys, g1, g2⟩ := ih (xs.set (i : Int).toNat (K + i)) K (i + 1) (by rw [List.length_set]; exact hx) hK hK1 (by omega) (by rw [List.length_set]; omega) (by rw [List.length_set]; omega)
    rw [List.length_set] at g1 g2
    refine ⟨ys, Ev.step (fun k => laws_markIntS.l0.eq_2 xs (K + i) i k) (ev_ite_pos (by omega) (ev_ite_pos h0 ?_)), g2⟩
    rw [w64 (x := K + i + 1) (by omega) (by omega), w64 (x := i + 1) (by omega) (by omega), show K + i + 1 = K + (i + 1) by omega]
    exact g1
theorem markI_len (xs : List Int) (hx : xs.length ≤ 1099511627776) (K : Int) (hK : 0 ≤ K) (hK1 : K ≤ 1099511627776) : ∃ ys, Ev (fun k => laws_markIntS.f k xs K) (K + (xs.length : Int), ys) ∧ ys.length = xs.length := by
  obtain ⟨ys, g1, g2⟩ := markI_lenloop xs.length xs K 0 hx hK hK1 (by omega) (by omega) (by omega)
  rw [show K + (0 : Int) = K by omega] at g1
  exact ⟨ys, g1, g2⟩
/-! ### pictures' parts -/
theorem pparts_loop (lv b : Int) (c r : List Int) (p0 : Int) (p1 p2 p3 : Bool) (us : List ByteArray) (hc : c.length ≤ 2097152) (hr : r.length ≤ 2097152) (hu : us.length ≤ 2097152)
    (hs : ∀ j : Int, 0 ≤ j → j < (us.length : Int) → ((rdOf ByteArray.empty us j).size : Int) ≤ 1048576) (d : Nat) : ∀ (out : List S112) (fr i : Int), 0 ≤ i → i ≤ (us.length : Int) → (us.length : Int) - i = d → (out.length : Int) = i →
    ∃ v, Ev (fun k => impl_PictureParts.l0 k out fr us (us.length : Int) i lv b c r p0 p1 p2 p3) v ∧ Ev (fun k => spec_PictureParts.l0 k us out fr i lv b c r p0 p1 p2 p3) v ∧ v.1.length ≤ us.length := by
  induction d with
  | zero =>
    intro out fr i h0 h1 hd ho
    exact ⟨(out, fr, true), Ev.step (fun k => impl_PictureParts.l0.eq_2 out fr us _ i lv b c r p0 p1 p2 p3 k) (ev_ite_neg (by omega) (Ev.now _)), Ev.step (fun k => spec_PictureParts.l0.eq_2 us out fr i lv b c r p0 p1 p2 p3 k) (ev_ite_neg (by omega) (Ev.now _)), by show out.length ≤ us.length; omega⟩
  | succ d ih =>
    intro out fr i h0 h1 hd ho
    have hlt : i < (us.length : Int) := by omega
    have hw : wrap64 (i + 1) = i + 1 := w64 (by omega) (by omega)
    have hsz := hs i h0 hlt
    obtain ⟨⟨t, f, q, kk, q2, row, ok⟩, g1, g2, _⟩ := partin_same lv b c r p0 p1 p2 p3 (rdOf ByteArray.empty us i) hc hr (by omega)
    have fail : ∀ (w : List S112 × Int × Bool), w = (([] : List S112), (0 : Int), false) → w.1.length ≤ us.length := fun w hw => by rw [hw]; exact Nat.zero_le _
    by_cases hi : i = 0
    · have im : ∀ v, _ → Ev (fun k => impl_PictureParts.l0 k out fr us (us.length : Int) i lv b c r p0 p1 p2 p3) v := fun v hv => Ev.step (fun k => impl_PictureParts.l0.eq_2 out fr us _ i lv b c r p0 p1 p2 p3 k) (ev_ite_pos hlt (ev_ite_pos h0 (ev_ite_pos hlt (Ev.bind g1 (ev_ite_pos hi hv)))))
      have sp : ∀ v, _ → Ev (fun k => spec_PictureParts.l0 k us out fr i lv b c r p0 p1 p2 p3) v := fun v hv => Ev.step (fun k => spec_PictureParts.l0.eq_2 us out fr i lv b c r p0 p1 p2 p3 k) (ev_ite_pos hlt (ev_ite_pos h0 (Ev.bind g2 hv)))
      cases ok with
      | false => exact ⟨_, im _ (ev_ite_neg (fun h => Bool.noConfusion h) (Ev.now _)), sp _ (ev_ite_neg (fun h => Bool.noConfusion h) (Ev.now _)), fail _ rfl⟩
      | true =>
        by_cases ht : t = i
        · obtain ⟨v, k1, k2, k3⟩ := ih (out ++ [⟨kk, q2, row⟩]) f (i + 1) (by omega) (by omega) (by omega) (by rw [List.length_append]; simp; omega)
          exact ⟨v, im _ (ev_ite_pos rfl (ev_ite_pos ht (ev_ite_pos (by omega) (by rw [hw]; exact k1)))), sp _ (ev_ite_pos rfl (ev_ite_pos ht (ev_ite_neg (by omega) (ev_ite_pos (by omega) (by rw [hw]; exact k2))))), k3⟩
        · exact ⟨_, im _ (ev_ite_pos rfl (ev_ite_neg ht (Ev.now _))), sp _ (ev_ite_pos rfl (ev_ite_neg ht (Ev.now _))), fail _ rfl⟩
    · have im : ∀ v, _ → Ev (fun k => impl_PictureParts.l0 k out fr us (us.length : Int) i lv b c r p0 p1 p2 p3) v := fun v hv => Ev.step (fun k => impl_PictureParts.l0.eq_2 out fr us _ i lv b c r p0 p1 p2 p3 k) (ev_ite_pos hlt (ev_ite_pos h0 (ev_ite_pos hlt (Ev.bind g1 (ev_ite_neg hi hv)))))
      have sp : ∀ v, _ → Ev (fun k => spec_PictureParts.l0 k us out fr i lv b c r p0 p1 p2 p3) v := fun v hv => Ev.step (fun k => spec_PictureParts.l0.eq_2 us out fr i lv b c r p0 p1 p2 p3 k) (ev_ite_pos hlt (ev_ite_pos h0 (Ev.bind g2 hv)))
      cases ok with
      | false => exact ⟨_, im _ (ev_ite_neg (fun h => Bool.noConfusion h) (Ev.now _)), sp _ (ev_ite_neg (fun h => Bool.noConfusion h) (Ev.now _)), fail _ rfl⟩
      | true =>
        by_cases ht : t = i
        · by_cases hf : f = fr
          · obtain ⟨v, k1, k2, k3⟩ := ih (out ++ [⟨kk, q2, row⟩]) f (i + 1) (by omega) (by omega) (by omega) (by rw [List.length_append]; simp; omega)
            exact ⟨v, im _ (ev_ite_pos rfl (ev_ite_pos ht (ev_ite_pos hf (ev_ite_pos (by omega) (by rw [hw, ← hf]; exact k1))))), sp _ (ev_ite_pos rfl (ev_ite_pos ht (ev_ite_pos (by omega) (ev_ite_pos hf (ev_ite_pos (by omega) (by rw [hw]; exact k2)))))), k3⟩
          · exact ⟨_, im _ (ev_ite_pos rfl (ev_ite_pos ht (ev_ite_neg hf (Ev.now _)))), sp _ (ev_ite_pos rfl (ev_ite_pos ht (ev_ite_pos (by omega) (ev_ite_neg hf (Ev.now _))))), fail _ rfl⟩
        · exact ⟨_, im _ (ev_ite_pos rfl (ev_ite_neg ht (Ev.now _))), sp _ (ev_ite_pos rfl (ev_ite_neg ht (Ev.now _))), fail _ rfl⟩
theorem partin_bad (lv b : Int) (c r : List Int) (p0 : Int) (p1 p2 p3 : Bool) (s : ByteArray) (hp : spec_ParOk.f p0 p1 p2 p3 = some false) (hs : s.size ≤ 1048576) :
    ∃ v, Ev (fun k => spec_PartIn.f k lv b c r p0 p1 p2 p3 s) v ∧ v.2.2.2.2.2.2 = false := by
  obtain ⟨n, row, ok, g1, g2, g3⟩ := unitin_same s hs
  have rb : Ev (fun k => spec_ReadHead.f k lv b c r p0 p1 p2 p3 row) (0, 0, 0, 0, false) := by
    obtain ⟨ro, ro1, ro2, ro3⟩ := rowok_same row
    have hss := seqOk_spec lv b c r
    have sfail : Ev (fun k => spec_ReadHead.j0 k row true lv b c r p0 p1 p2 p3) (0, 0, 0, 0, false) := Ev.step (fun k => spec_ReadHead.j0.eq_2 row true lv b c r p0 p1 p2 p3 k) (ev_ite_pos rfl (Ev.now _))
    refine Ev.bind ro2 ?_
    cases ro with
    | false => exact ev_ite_neg (by decide) sfail
    | true =>
      refine ev_ite_pos rfl (Ev.bind hss ?_)
      cases seqOk lv b c r with
      | false => exact ev_ite_neg (by decide) sfail
      | true => exact ev_ite_pos rfl (ev_bind_some hp sfail)
  have sb : ∀ x, ∃ v : Int × Int × Int × Bool × Int × ByteArray × Bool, Ev (fun k => spec_PartIn.j0 k n row x lv b c r p0 p1 p2 p3) v ∧ v.2.2.2.2.2.2 = false := by
    intro x
    refine ⟨(0, 0, 0, false, 0, (⟨#[]⟩ : ByteArray), false), Ev.step (fun k => spec_PartIn.j0.eq_2 n row x lv b c r p0 p1 p2 p3 k) ?_, rfl⟩
    cases x with
    | true => exact ev_ite_pos rfl (Ev.now _)
    | false => exact ev_ite_neg (by decide) (Ev.bind rb (ev_ite_neg (fun h => Bool.noConfusion h) (Ev.now _)))
  cases ok with
  | false => obtain ⟨v, v1, v2⟩ := sb true; exact ⟨v, Ev.bind g2 (ev_ite_neg (fun h => Bool.noConfusion h) v1), v2⟩
  | true =>
    by_cases h5 : n = 5
    · obtain ⟨v, v1, v2⟩ := sb false; exact ⟨v, Ev.bind g2 (ev_ite_pos rfl (ev_ite_pos h5 v1)), v2⟩
    · obtain ⟨v, v1, v2⟩ := sb (n != 1); exact ⟨v, Ev.bind g2 (ev_ite_pos rfl (ev_ite_neg h5 v1)), v2⟩
theorem pictureparts_same (lv b : Int) (c r : List Int) (p0 : Int) (p1 p2 p3 : Bool) (us : List ByteArray) (hc : c.length ≤ 2097152) (hr : r.length ≤ 2097152) (hu : us.length ≤ 2097152)
    (hs : ∀ j : Int, 0 ≤ j → j < (us.length : Int) → ((rdOf ByteArray.empty us j).size : Int) ≤ 1048576) :
    ∃ v, Ev (fun k => impl_PictureParts.f k lv b c r p0 p1 p2 p3 us) v ∧ Ev (fun k => spec_PictureParts.f k lv b c r p0 p1 p2 p3 us) v ∧ v.1.length ≤ us.length := by
  have hsi := seqOk_impl lv b c r (by omega) (by omega)
  have hss := seqOk_spec lv b c r
  obtain ⟨pv, hpv⟩ := par_some p0 p1 p2 p3
  have hpi : impl_ParOk.f p0 p1 p2 p3 = some pv := (par_same _ _ _ _).trans hpv
  have ib : Ev (fun k => impl_PictureParts.j0 k us ([] : List S112) 0 true lv b c r p0 p1 p2 p3) (([] : List S112), 0, false) := Ev.step (fun k => impl_PictureParts.j0.eq_2 us _ 0 true lv b c r p0 p1 p2 p3 k) (ev_ite_pos rfl (Ev.now _))
  have sb : Ev (fun k => spec_PictureParts.j0 k us ([] : List S112) 0 true lv b c r p0 p1 p2 p3) (([] : List S112), 0, false) := Ev.step (fun k => spec_PictureParts.j0.eq_2 us _ 0 true lv b c r p0 p1 p2 p3 k) (ev_ite_pos rfl (Ev.now _))
  have sj : (us.length : Int) ≠ 0 → ((us.length : Int) == 0) = false := fun h => by simpa using h
  cases hso : seqOk lv b c r with
  | false =>
    rw [hso] at hsi hss
    refine ⟨_, ev_bind_some rfl (Ev.bind hsi (ev_ite_neg (by decide) ib)), ev_bind_some rfl (Ev.bind (a := 0) (Ev.bind hss (ev_ite_neg (by decide) (Ev.now _))) ?_), Nat.zero_le _⟩
    by_cases h0 : (us.length : Int) = 0
    · refine ev_ite_pos h0 ?_
      rw [h0]; exact sb
    · exact ev_ite_neg h0 sb
  | true =>
    rw [hso] at hsi
    have hT := tiles_impl lv b c r hso
    have hT2 := tiles_spec lv b c r hso
    obtain ⟨hc4, hr4, _⟩ := seqOk_side lv b c r hso
    have htb := tiles_bounds c r hc4 hr4
    by_cases hl : (us.length : Int) = (c.length : Int) * (r.length : Int)
    · have hn0 : (us.length : Int) ≠ 0 := by omega
      have sp : ∀ v, Ev (fun k => spec_PictureParts.l0 k us ([] : List S112) 0 0 lv b c r p0 p1 p2 p3) v → Ev (fun k => spec_PictureParts.f k lv b c r p0 p1 p2 p3 us) v := fun v hv => ev_bind_some rfl (Ev.bind hT2 (ev_ite_pos hl (by
        rw [sj hn0]; exact Ev.step (fun k => spec_PictureParts.j0.eq_2 us _ 0 false lv b c r p0 p1 p2 p3 k) (ev_ite_neg (by decide) hv))))
      cases pv with
      | false =>
        obtain ⟨⟨t, f, q, kk, q2, row, ok⟩, v1, v2⟩ := partin_bad lv b c r p0 p1 p2 p3 (rdOf ByteArray.empty us 0) hpv (by have := hs 0 (by omega) (by omega); omega)
        simp only at v2
        subst v2
        refine ⟨_, ev_bind_some rfl (Ev.bind hsi (ev_ite_pos rfl (ev_bind_some hpi (ev_ite_neg (by decide) ib)))), sp _ ?_, Nat.zero_le _⟩
        exact Ev.step (fun k => spec_PictureParts.l0.eq_2 us _ 0 0 lv b c r p0 p1 p2 p3 k) (ev_ite_pos (by omega) (ev_ite_pos (by omega) (Ev.bind v1 (ev_ite_neg (fun h => Bool.noConfusion h) (Ev.now _)))))
      | true =>
        obtain ⟨v, k1, k2, k3⟩ := pparts_loop lv b c r p0 p1 p2 p3 us hc hr hu hs us.length [] 0 0 (by omega) (by omega) (by omega) (by simp)
        refine ⟨v, ev_bind_some rfl (Ev.bind hsi (ev_ite_pos rfl (ev_bind_some hpi (ev_ite_pos rfl (Ev.bind hT ?_))))), sp v k2, k3⟩
        rw [show ((us.length : Int) != (c.length : Int) * (r.length : Int)) = false by simpa using hl]
        exact Ev.step (fun k => impl_PictureParts.j0.eq_2 us _ 0 false lv b c r p0 p1 p2 p3 k) (ev_ite_neg (by decide) k1)
    · refine ⟨_, ev_bind_some rfl (Ev.bind hsi (ev_ite_pos rfl (ev_bind_some hpi ?_))), ev_bind_some rfl (Ev.bind hT2 (ev_ite_neg hl sb)), Nat.zero_le _⟩
      cases pv with
      | false => exact ev_ite_neg (by decide) ib
      | true =>
        refine ev_ite_pos rfl (Ev.bind hT ?_)
        rw [show ((us.length : Int) != (c.length : Int) * (r.length : Int)) = true by simpa using hl]
        exact ib
theorem FnExactPictureParts : laws_FnExactPictureParts.Pure := by
  intro ⟨x00, x01, x02, x03⟩ ⟨x10, x11, x12, x13⟩ us hx0 hx1 ⟨hu0, hu1⟩
  obtain ⟨-, -, ⟨hl2, -⟩, ⟨hl3, -⟩⟩ := hx0
  simp only at hl2 hl3 ⊢
  apply Ev.rounds
  obtain ⟨v, hv, hv2⟩ := szseq x00 x01 x02 x03 1048576 hl2 hl3 (by omega) (by omega)
  refine ev_bind_some hv ?_
  rcases hv2 with hneg | ⟨h0, h1, ha, hb⟩
  · exact ev_ite_pos hneg (Ev.now _)
  refine ev_ite_neg (by omega) ?_
  obtain ⟨z, hz, hz2⟩ := szstrs us v hu0 hu1 h0 h1
  refine Ev.bind hz ?_
  rcases hz2 with hneg | ⟨hz0, hz1, hzl, hzs⟩
  · exact ev_ite_pos hneg (Ev.now _)
  have ts := toseq_ev x00 x01 x02 x03 (by omega) (by omega)
  have tu := toStrs_ev us (by omega)
  obtain ⟨⟨out, fr, ok⟩, g1, g2, g3⟩ := pictureparts_same x00 x01 x02 x03 x10 x11 x12 x13 us (by omega) (by omega) (by omega) (fun j a b => by have := hzs j a b; omega)
  simp only at g3
  have he := eqparts_self out (by omega)
  have hb' : (ok != ok) = false := by simp
  obtain ⟨m2, m2a, -⟩ := markI_len x02 (by omega) 1 (by omega) (by omega)
  obtain ⟨m3, m3a, -⟩ := markI_len x03 (by omega) (1 + (x02.length : Int)) (by omega) (by omega)
  obtain ⟨mu, mua, -⟩ := markstrs_ev us (by omega) (1 + (x02.length : Int) + (x03.length : Int)) (by omega) (by omega)
  obtain ⟨mp, mpa, mph⟩ := markP_held out (by omega) 1 (by omega) (by omega)
  refine ev_ite_neg (by omega) (Ev.bind ts (ev_bind_some rfl (Ev.bind tu (Ev.bind g2 (Ev.bind ts (Ev.bind tu (ev_bind_some rfl (Ev.bind g1 (Ev.bind he (ev_ite_pos rfl (ev_ite_pos rfl ?_)))))))))))
  rw [hb']
  refine Ev.step (fun k => laws_FnExactPictureParts.j0.eq_2 us out fr ok us out fr ok false x00 x01 x02 x03 x10 x11 x12 x13 x00 x01 x02 x03 k) (ev_ite_neg (by decide) ?_)
  refine Ev.bind ts (Ev.bind (eqseq_self x00 x01 x02 x03 (by omega) (by omega)) (ev_ite_pos rfl (Ev.bind tu (Ev.bind (eqstrs_self us (by omega)) (ev_ite_pos rfl ?_)))))
  refine Ev.bind (a := (1 + (x02.length : Int) + (x03.length : Int), m2, m3)) (Ev.bind m2a (Ev.bind m3a (Ev.now _))) (Ev.bind mua (ev_ite_neg (by omega) (Ev.bind he (ev_ite_pos rfl (ev_ite_pos rfl ?_)))))
  rw [hb']
  refine Ev.step (fun k => laws_FnExactPictureParts.j1.eq_2 us out fr ok out false x00 x01 x02 x03 x10 x11 x12 x13 k) (ev_ite_neg (by decide) ?_)
  refine Ev.bind mpa (Ev.bind mph (ev_ite_neg (by omega) (ev_ite_pos rfl (Ev.bind ts (ev_bind_some rfl (Ev.bind tu (Ev.bind g1 (Ev.bind he (ev_ite_pos rfl (ev_ite_pos rfl ?_))))))))))
  rw [hb']
  exact Ev.step (fun k => laws_FnExactPictureParts.j2.eq_2 mp _ false k) (ev_ite_neg (by decide) (Ev.bind mph (ev_ite_neg (by omega) (ev_ite_pos rfl (Ev.now _)))))
end Go.Proofs.Ytbjambmdononiaa.Pure
