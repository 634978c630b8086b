/- Drawn layouts come back from their texts, their sets are right, each input's tile is found where it stands, and the inputs that two layouts share are kept, at every row of drawn bytes. No condition beyond the statement's own. -/
import Derived.Test.YtjmhhgnknjfnlaaZFnLayoutsy0
import Derived.Test.YtjmhhgnknjfnlaaZFnLayoutsy1
import Derived.Test.YtjmhhgnknjfnlaaZFnLayoutsy2
import Derived.Test.YtjmhhgnknjfnlaaZFnLayoutsy3
namespace Go.Proofs.Ytjmhhgnknjfnlaa.Pure
open Go.RowKit Go.Proofs.Ytjmhhgnknjfnlaa.PFnLayouts Go.Proofs.YtjmhhgnknjfnlaaW.PrintWords Go.Proofs.YtjmhhgnknjfnlaaW.PrintLast
set_option linter.unusedVariables false
set_option linter.unusedSimpArgs false
theorem w64 {x : Int} (h : -9223372036854775808 ≤ x) (h' : x ≤ 9223372036854775807) : wrap64 x = x := by unfold wrap64; omega
theorem ev_ite_pos {α : Type} {c : Prop} [Decidable c] {g f : Nat → Option α} {r : α} (h : c) (k : Ev g r) : Ev (fun n => if c then g n else f n) r := by simpa only [if_pos h] using k
theorem ev_ite_neg {α : Type} {c : Prop} [Decidable c] {g f : Nat → Option α} {r : α} (h : ¬ c) (k : Ev f r) : Ev (fun n => if c then g n else f n) r := by simpa only [if_neg h] using k
theorem ev_now' {α : Type} {g : Nat → Option α} {r : α} (h : ∀ k, g k = some r) : Ev g r := ⟨0, fun k _ => h k⟩
theorem ev_bind_some {α β : Type} {x : Option α} {a : α} {f : Nat → α → Option β} {r : β} (h : x = some a) (k : Ev (fun n => f n a) r) : Ev (fun n => x.bind (f n)) r := by subst h; simpa only [Option.bind_some] using k
theorem bt_bounds (s : ByteArray) (i : Int) : 0 ≤ bt s i ∧ bt s i ≤ 255 := bt_range s i
theorem size_ext (s : ByteArray) (a b : Nat) (h : a ≤ b) (hb : b ≤ s.size) : (s.extract a b).size = b - a := by rw [ByteArray.size_extract]; omega
theorem within_eq (a b c : Int) : impl_within.f a b c = some (decide (b ≤ a ∧ a ≤ c)) := by
  unfold impl_within.f
  by_cases h : a ≥ b
  · rw [if_pos h]; simp [show b ≤ a from h]
  · rw [if_neg h]; simp [show ¬ b ≤ a from h]
theorem rd_drop (l : List Int) (i : Int) (h0 : 0 ≤ i) (h1 : i < (l.length : Int)) : l.drop i.toNat = rd l i :: l.drop (i + 1).toNat := by
  rw [List.drop_eq_getElem_cons (by omega : i.toNat < l.length), show (i + 1).toNat = i.toNat + 1 by omega]
  congr 1
  unfold rd
  rw [List.getD_eq_getElem?_getD, List.getElem?_eq_getElem (by omega)]; rfl
theorem drop_end {α : Type} (l : List α) (i : Int) (h : (l.length : Int) ≤ i) : l.drop i.toNat = [] := List.drop_eq_nil_of_le (by omega)
/-- A side of a wall: 1 to 4 numbers, each 1 to 8. -/
def inR (x : Int) : Bool := decide (1 ≤ x ∧ x ≤ 8)
def sideOk (l : List Int) : Bool := decide (1 ≤ l.length ∧ l.length ≤ 4) && l.all inR
theorem side_short (l : List Int) (h : ¬ (1 ≤ (l.length : Int) ∧ (l.length : Int) ≤ 4)) : sideOk l = false := by
  have hd : decide (1 ≤ l.length ∧ l.length ≤ 4) = false := by rw [decide_eq_false_iff_not]; omega
  unfold sideOk; rw [hd]; rfl
theorem side_all (l : List Int) (h : 1 ≤ (l.length : Int) ∧ (l.length : Int) ≤ 4) : sideOk l = l.all inR := by
  have hd : decide (1 ≤ l.length ∧ l.length ≤ 4) = true := by rw [decide_eq_true_eq]; omega
  unfold sideOk; rw [hd]; rfl
theorem side_bad (l : List Int) (h : l.all inR = false) : sideOk l = false := by unfold sideOk; rw [h, Bool.and_false]
theorem sum_bounds (l : List Int) (h : l.all inR = true) : (l.length : Int) ≤ l.sum ∧ l.sum ≤ 8 * l.length := by
  induction l with
  | nil => simp
  | cons x l ih =>
    simp only [List.all_cons, Bool.and_eq_true, inR, decide_eq_true_eq] at h
    have := ih (by simpa [inR] using h.2)
    simp only [List.sum_cons, List.length_cons]
    omega
theorem sumOf_loop (l : List Int) (hl : l.length ≤ 4) (d : Nat) : ∀ (n i : Int), 0 ≤ i → i ≤ (l.length : Int) → (l.length : Int) - i = d → (l.drop i.toNat).all inR = true → 0 ≤ n → n ≤ 8 * i → Ev (fun k => impl_sumOf.l0 k n l (l.length : Int) i) (n + (l.drop i.toNat).sum) := by
  induction d with
  | zero =>
    intro n i h0 h1 hd ha hn hn1
    rw [drop_end l i (by omega)]
    refine Ev.step (fun k => impl_sumOf.l0.eq_2 n l _ i k) (ev_ite_neg (by omega) ?_)
    simpa using Ev.now n
  | succ d ih =>
    intro n i h0 h1 hd ha hn hn1
    have hlt : i < (l.length : Int) := by omega
    rw [rd_drop l i h0 hlt] at ha ⊢
    simp only [List.all_cons, Bool.and_eq_true, inR, decide_eq_true_eq] at ha
    refine Ev.step (fun k => impl_sumOf.l0.eq_2 n l _ i k) (ev_ite_pos hlt (ev_ite_pos h0 (ev_ite_pos hlt ?_)))
    rw [w64 (by omega) (by omega), w64 (by omega) (by omega), List.sum_cons, ← Int.add_assoc]
    exact ih (n + rd l i) (i + 1) (by omega) (by omega) (by omega) (by simpa [inR] using ha.2) (by omega) (by omega)
theorem sumOf_ev (l : List Int) (h : sideOk l = true) : Ev (fun k => impl_sumOf.f k l) l.sum := by
  simp only [sideOk, Bool.and_eq_true, decide_eq_true_eq] at h
  have := sumOf_loop l h.1.2 l.length 0 0 (by omega) (by omega) (by omega) (by simpa using h.2) (by omega) (by omega)
  rw [show (0 : Int) + (l.drop (0 : Int).toNat).sum = l.sum by simp] at this
  exact this
/-- How many squares; 0 where a side is none. -/
def squares (c r : List Int) : Int := if sideOk c && sideOk r then c.sum * r.sum else 0
theorem squares_c (c r : List Int) (h : sideOk c = false) : squares c r = 0 := by unfold squares; rw [h]; rfl
theorem squares_r (c r : List Int) (h : sideOk r = false) : squares c r = 0 := by unfold squares; rw [h, Bool.and_false]; rfl
theorem squares_bounds (c r : List Int) : 0 ≤ squares c r ∧ squares c r ≤ 1024 := by
  unfold squares
  split
  · rename_i h
    simp only [Bool.and_eq_true] at h
    have h1 := h.1; have h2 := h.2
    simp only [sideOk, Bool.and_eq_true, decide_eq_true_eq] at h1 h2
    have b1 := sum_bounds c h1.2
    have b2 := sum_bounds r h2.2
    constructor
    · exact Int.mul_nonneg (by omega) (by omega)
    · have : c.sum * r.sum ≤ 32 * 32 := Int.mul_le_mul (by omega) (by omega) (by omega) (by omega)
      omega
  · omega
theorem squares_l1 (ls : List (List Int)) (n i : Int) (l : List Int) (a b : Int) (c r : List Int) (v : Int) (hl : l.length ≤ 1099511627776) (hg : l.all inR = true → Ev (fun k => impl_SquaresOf.l0 k ls n (wrap64 (i + 1)) a b c r) v) (hb : l.all inR = false → v = 0) (d : Nat) :
    ∀ j : Int, 0 ≤ j → j ≤ (l.length : Int) → (l.length : Int) - j = d → l.all inR = (l.drop j.toNat).all inR → Ev (fun k => impl_SquaresOf.l1 k ls n i l (l.length : Int) j a b c r) v := by
  induction d with
  | zero =>
    intro j h0 h1 hd ha
    refine Ev.step (fun k => impl_SquaresOf.l1.eq_2 ls n i l _ j a b c r k) (ev_ite_neg (by omega) (hg ?_))
    rw [ha, drop_end l j (by omega)]; rfl
  | succ d ih =>
    intro j h0 h1 hd ha
    have hlt : j < (l.length : Int) := by omega
    refine Ev.step (fun k => impl_SquaresOf.l1.eq_2 ls n i l _ j a b c r k) (ev_ite_pos hlt (ev_ite_pos h0 (ev_ite_pos hlt (ev_bind_some (within_eq _ _ _) ?_))))
    rw [rd_drop l j h0 hlt] at ha
    simp only [List.all_cons] at ha
    by_cases hin : 1 ≤ rd l j ∧ rd l j ≤ 8
    · refine ev_ite_pos (by simpa using hin) ?_
      rw [w64 (by omega) (by omega)]
      refine ih (j + 1) (by omega) (by omega) (by omega) ?_
      rw [ha, show inR (rd l j) = true by simpa [inR] using hin]; simp
    · refine ev_ite_neg (by simpa using hin) ?_
      rw [show inR (rd l j) = false by simpa [inR] using hin] at ha
      rw [hb (by rw [ha]; rfl)]; exact Ev.now _
theorem squares_impl (a b : Int) (c r : List Int) (hc : c.length ≤ 1099511627776) (hr : r.length ≤ 1099511627776) : Ev (fun k => impl_SquaresOf.f k a b c r) (squares c r) := by
  refine ev_bind_some rfl ?_
  have e0 : rd_L2 [c, r] 0 = c := rfl
  have e1 : rd_L2 [c, r] 1 = r := rfl
  refine Ev.step (fun k => impl_SquaresOf.l0.eq_2 [c, r] 2 0 a b c r k) (ev_ite_pos (by omega) (ev_ite_pos (by omega) (ev_ite_pos (by simp) ?_)))
  rw [e0]
  refine ev_bind_some (within_eq _ _ _) ?_
  by_cases hcl : 1 ≤ (c.length : Int) ∧ (c.length : Int) ≤ 4
  · refine ev_ite_pos (by simpa using hcl) ?_
    refine squares_l1 [c, r] 2 0 c a b c r _ hc ?_ ?_ c.length 0 (by omega) (by omega) (by omega) (by simp)
    · intro hca
      have hcs : sideOk c = true := by rw [side_all c hcl, hca]
      rw [show wrap64 (0 + 1) = 1 from w64 (by omega) (by omega)]
      refine Ev.step (fun k => impl_SquaresOf.l0.eq_2 [c, r] 2 1 a b c r k) (ev_ite_pos (by omega) (ev_ite_pos (by omega) (ev_ite_pos (by simp) ?_)))
      rw [e1]
      refine ev_bind_some (within_eq _ _ _) ?_
      by_cases hrl : 1 ≤ (r.length : Int) ∧ (r.length : Int) ≤ 4
      · refine ev_ite_pos (by simpa using hrl) ?_
        refine squares_l1 [c, r] 2 1 r a b c r _ hr ?_ ?_ r.length 0 (by omega) (by omega) (by omega) (by simp)
        · intro hra
          have hrs : sideOk r = true := by rw [side_all r hrl, hra]
          rw [show wrap64 (1 + 1) = 2 from w64 (by omega) (by omega)]
          have hsq : squares c r = c.sum * r.sum := by simp [squares, hcs, hrs]
          refine Ev.step (fun k => impl_SquaresOf.l0.eq_2 [c, r] 2 2 a b c r k) (ev_ite_neg (by omega) (Ev.bind (sumOf_ev c hcs) (Ev.bind (sumOf_ev r hrs) ?_)))
          have hb := squares_bounds c r
          rw [hsq] at hb ⊢
          rw [w64 (by omega) (by omega)]; exact Ev.now _
        · intro hra; exact squares_r c r (side_bad r hra)
      · refine ev_ite_neg (by simpa using hrl) ?_
        rw [squares_r c r (side_short r hrl)]
        exact Ev.now _
    · intro hca; exact squares_c c r (side_bad c hca)
  · refine ev_ite_neg (by simpa using hcl) ?_
    rw [squares_c c r (side_short c hcl)]
    exact Ev.now _
def levelSquares (a : Int) : Int := if a = 1 then 16 else if a = 2 then 64 else if a = 3 then 256 else 0
theorem levelSquares_impl (a : Int) : impl_LevelSquares.f a = some (levelSquares a) := by
  unfold impl_LevelSquares.f levelSquares
  rw [within_eq, Option.bind_some]
  by_cases h1 : a = 1
  · subst h1; simp [wrap64, rd]
  · by_cases h2 : a = 2
    · subst h2; simp [wrap64, rd]
    · by_cases h3 : a = 3
      · subst h3; simp [wrap64, rd]
      · rw [if_neg (by simp; omega), if_neg h1, if_neg h2, if_neg h3]
/-- A wall's set is right. -/
def seqOk (lv bits : Int) (c r : List Int) : Bool := decide (1 ≤ squares c r ∧ squares c r ≤ levelSquares lv) && decide (3 ≤ bits ∧ bits ≤ 8)
theorem seqOk_impl (lv bits : Int) (c r : List Int) (hc : c.length ≤ 1099511627776) (hr : r.length ≤ 1099511627776) : Ev (fun k => impl_SeqOk.f k lv bits c r) (seqOk lv bits c r) := by
  refine Ev.bind (squares_impl lv bits c r hc hr) (ev_bind_some (levelSquares_impl lv) (ev_bind_some (within_eq _ _ _) ?_))
  unfold seqOk
  by_cases h : 1 ≤ squares c r ∧ squares c r ≤ levelSquares lv
  · refine ev_ite_pos (by simpa using h) (ev_bind_some (within_eq _ _ _) ?_)
    rw [decide_eq_true h, Bool.true_and]; exact Ev.now _
  · refine ev_ite_neg (by simpa using h) ?_
    rw [decide_eq_false h, Bool.false_and]; exact Ev.now _
/-- The least level of a set with these sides, or 0. -/
def levelFor (c r : List Int) : Int := if seqOk 1 3 c r then 1 else if seqOk 2 3 c r then 2 else if seqOk 3 3 c r then 3 else 0
theorem levelFor_impl (c r : List Int) (hc : c.length ≤ 1099511627776) (hr : r.length ≤ 1099511627776) : Ev (fun k => impl_LevelFor.f k c r) (levelFor c r) := by
  unfold levelFor
  refine Ev.step (fun k => impl_LevelFor.l0.eq_2 c r 1 k) (ev_ite_pos (by omega) (Ev.bind (seqOk_impl 1 3 c r hc hr) ?_))
  by_cases h1 : seqOk 1 3 c r = true
  · rw [if_pos h1]; exact ev_ite_pos h1 (Ev.now _)
  · rw [if_neg h1]; refine ev_ite_neg h1 ?_
    rw [show wrap64 (1 + 1) = 2 from w64 (by omega) (by omega)]
    refine Ev.step (fun k => impl_LevelFor.l0.eq_2 c r 2 k) (ev_ite_pos (by omega) (Ev.bind (seqOk_impl 2 3 c r hc hr) ?_))
    by_cases h2 : seqOk 2 3 c r = true
    · rw [if_pos h2]; exact ev_ite_pos h2 (Ev.now _)
    · rw [if_neg h2]; refine ev_ite_neg h2 ?_
      rw [show wrap64 (2 + 1) = 3 from w64 (by omega) (by omega)]
      refine Ev.step (fun k => impl_LevelFor.l0.eq_2 c r 3 k) (ev_ite_pos (by omega) (Ev.bind (seqOk_impl 3 3 c r hc hr) ?_))
      by_cases h3 : seqOk 3 3 c r = true
      · rw [if_pos h3]; exact ev_ite_pos h3 (Ev.now _)
      · rw [if_neg h3]; refine ev_ite_neg h3 ?_
        rw [show wrap64 (3 + 1) = 4 from w64 (by omega) (by omega)]
        exact Ev.step (fun k => impl_LevelFor.l0.eq_2 c r 4 k) (ev_ite_neg (by omega) (Ev.now _))
theorem levelFor_side (c r : List Int) (h : levelFor c r ≠ 0) : sideOk c = true ∧ sideOk r = true := by
  have key : ∀ lv, seqOk lv 3 c r = true → sideOk c = true ∧ sideOk r = true := by
    intro lv h
    simp only [seqOk, Bool.and_eq_true, decide_eq_true_eq] at h
    have h1 := h.1.1
    unfold squares at h1
    split at h1
    · rename_i hs; simpa using hs
    · omega
  unfold levelFor at h
  split at h
  · exact key 1 (by assumption)
  · split at h
    · exact key 2 (by assumption)
    · split at h
      · exact key 3 (by assumption)
      · exact absurd rfl h
/-- What a layout's list of inputs must be. -/
def WhoOk (w : List Int) : Prop := ∀ i : Int, 0 ≤ i → i < (w.length : Int) → (-1 ≤ rd w i ∧ rd w i ≤ 5) ∧ ∀ j : Int, 0 ≤ j → j < i → rd w i ≥ 0 → rd w j ≠ rd w i
def LayP (c r w : List Int) : Prop := levelFor c r ≠ 0 ∧ (w.length : Int) = (c.length : Int) * (r.length : Int) ∧ WhoOk w
theorem rd_take (l : List Int) (i j : Int) (h0 : 0 ≤ j) (h1 : j < i) : rd (l.take i.toNat) j = rd l j := by
  unfold rd
  rw [List.getD_eq_getElem?_getD, List.getD_eq_getElem?_getD, List.getElem?_take, if_pos (by omega)]
theorem tmod_nn {x : Int} (h : 0 ≤ x) : Int.tmod x 10 = x % 10 := Int.tmod_eq_emod_of_nonneg h
theorem tdiv_nn {x : Int} (h : 0 ≤ x) : Int.tdiv x 10 = x / 10 := Int.tdiv_eq_ediv_of_nonneg h
theorem figure_at : ∀ d : Nat, d < 10 → (⟨#[48, 49, 50, 51, 52, 53, 54, 55, 56, 57, 97, 98, 99, 100, 101, 102]⟩ : ByteArray).extract d (d + 1) = strOfNums [(48 + (d : Int))] := by decide
theorem figure_same (m : Int) (h0 : 0 ≤ m) (h1 : m < 10) : (⟨#[48, 49, 50, 51, 52, 53, 54, 55, 56, 57, 97, 98, 99, 100, 101, 102]⟩ : ByteArray).extract (m : Int).toNat ((m + 1) : Int).toNat = strOfNums [(48 + m)] := by
  have h := figure_at m.toNat (by omega)
  rw [show ((m + 1) : Int).toNat = m.toNat + 1 by omega]
  rw [h]; congr 2; omega
/-! ### texts as lists of bytes -/
theorem bo_append (a b : ByteArray) : bytesOf (a ++ b) = bytesOf a ++ bytesOf b := by simp [bytesOf]
theorem bo_inj {a b : ByteArray} (h : bytesOf a = bytesOf b) : a = b := by
  have h2 : a.data.toList = b.data.toList := by
    unfold bytesOf at h
    exact (List.map_inj_right (fun x y hxy => UInt8.toNat_inj.1 (Int.ofNat.inj hxy))).1 h
  cases a; cases b; simp only at h2; rw [Array.toList_inj.1 h2]
theorem bo_extract (s : ByteArray) (i j : Nat) : bytesOf (s.extract i j) = ((bytesOf s).take j).drop i := by
  unfold bytesOf
  rw [ByteArray.data_extract, Array.toList_extract, List.extract_eq_take_drop, List.map_take, List.map_drop, List.take_drop]
  by_cases h : i ≤ j
  · rw [show i + (j - i) = j by omega]
  · rw [show i + (j - i) = i by omega, List.drop_eq_nil_of_le (by simp; omega), List.drop_eq_nil_of_le (by simp; omega)]
theorem bo_size (s : ByteArray) : (bytesOf s).length = s.size := bytesOf_length s
theorem bo_sons (xs : List Int) (h : ∀ x ∈ xs, 0 ≤ x ∧ x < 256) : bytesOf (strOfNums xs) = xs := by
  unfold bytesOf strOfNums
  simp only [List.map_map]
  conv => rhs; rw [← List.map_id xs]
  refine List.map_congr_left fun x hx => ?_
  have := h x hx
  simp only [Function.comp, id, UInt8.toNat_ofNat']
  omega
theorem toList_same {a b : ByteArray} : a.toList = b.toList ↔ a = b := by
  constructor
  · intro h
    rw [ByteArray.toList_eq, ByteArray.toList_eq] at h
    cases a; cases b; simp only at h; rw [Array.toList_inj.1 h]
  · intro h; rw [h]
theorem bt_bo (s : ByteArray) (i : Int) : bt s i = (bytesOf s).getD i.toNat 0 := (rd_bytesOf s i).symm
/-! ### figures -/
def horner (a : Int) (ds : List Int) : Int := ds.foldl (fun a c => 10 * a + (c - 48)) a
def Digits (ds : List Int) : Prop := ∀ c ∈ ds, 48 ≤ c ∧ c ≤ 57
theorem horner_ge (ds : List Int) (h : Digits ds) : ∀ a, 0 ≤ a → a ≤ horner a ds := by
  induction ds with
  | nil => intro a _; exact Int.le_refl _
  | cons c cs ih =>
    intro a ha
    have hc := h c (by simp)
    have := ih (fun x hx => h x (by simp [hx])) (10 * a + (c - 48)) (by omega)
    show a ≤ horner (10 * a + (c - 48)) cs
    omega
theorem figure_bo (m : Int) (h0 : 0 ≤ m) (h1 : m < 10) : bytesOf (strOfNums [(48 + m)]) = [48 + m] := bo_sons _ (by simp; omega)
theorem decimal_digits (n : Int) (hn : 0 ≤ n) (m : Nat) : ∀ (x : Int) (t : ByteArray), 0 ≤ x → x < 10 ^ m → m ≤ 18 → (t.size : Int) + m ≤ 1000000 →
    ∃ r ds, Ev (fun k => impl_Decimal.l0 k n t x) r ∧ bytesOf r = ds ++ bytesOf t ∧ Digits ds ∧ horner 0 ds = x ∧ ds.length ≤ m ∧ (0 < x → ds ≠ []) := by
  induction m with
  | zero =>
    intro x t h0 h1 hm hs
    obtain rfl : x = 0 := by simp at h1; omega
    refine ⟨t, [], ?_, by simp, by simp [Digits], rfl, by simp, by omega⟩
    exact Ev.step (fun k => impl_Decimal.l0.eq_2 n t 0 k) (ev_ite_pos rfl (ev_ite_neg (by omega) (Ev.now _)))
  | succ m ih =>
    intro x t h0 h1 hm hs
    by_cases hx : x = 0
    · subst hx
      refine ⟨t, [], ?_, by simp, by simp [Digits], rfl, by simp, by omega⟩
      exact Ev.step (fun k => impl_Decimal.l0.eq_2 n t 0 k) (ev_ite_pos rfl (ev_ite_neg (by omega) (Ev.now _)))
    · have hb : 0 ≤ x % 10 ∧ x % 10 < 10 := by omega
      have hp : (10 : Int) ^ (m + 1) = 10 * 10 ^ m := by rw [Int.pow_succ]; omega
      have hbig : (10 : Int) ^ (m + 1) ≤ 1000000000000000000 := by
        have h1 : 10 ^ (m + 1) ≤ 10 ^ 18 := Nat.pow_le_pow_right (by omega) (by omega)
        have h2 : (((10 ^ (m + 1) : Nat)) : Int) ≤ ((10 ^ 18 : Nat) : Int) := Int.ofNat_le.2 h1
        rw [Int.natCast_pow] at h2
        exact h2
      have hm1 : mx (Int.tmod x 10) (wrap64 (-(Int.tmod x 10))) = x % 10 := by
        rw [tmod_nn h0, w64 (by omega) (by omega)]; unfold mx; split <;> omega
      have hw1 : wrap64 (x % 10 + 1) = x % 10 + 1 := w64 (by omega) (by omega)
      have hw2 : wrap64 (Int.tdiv x 10) = x / 10 := by rw [tdiv_nn h0]; exact w64 (by omega) (by omega)
      have hfs : (strOfNums [(48 + x % 10)]).size = 1 := by rw [strOfNums_size]; rfl
      have hsz : (strOfNums [(48 + x % 10)] ++ t).size = 1 + t.size := by rw [ByteArray.size_append, hfs]
      obtain ⟨r, ds, g1, g2, g3, g4, g5, g6⟩ := ih (x / 10) (strOfNums [(48 + x % 10)] ++ t) (by omega) (by omega) (by omega) (by rw [hsz]; omega)
      refine ⟨r, ds ++ [48 + x % 10], ?_, ?_, ?_, ?_, by simp; omega, by simp⟩
      · refine Ev.step (fun k => impl_Decimal.l0.eq_2 n t x k) (ev_ite_neg hx ?_)
        rw [hm1, hw1, figure_same _ hb.1 hb.2, hw2]
        exact ev_ite_pos hb.1 (ev_ite_pos (by omega) (ev_ite_pos (by omega) (ev_ite_pos (by rw [hfs]; omega) g1)))
      · rw [g2, bo_append, figure_bo _ hb.1 hb.2]; simp
      · intro c hc
        rcases List.mem_append.1 hc with hc | hc
        · exact g3 c hc
        · rw [List.mem_singleton.1 hc]; omega
      · unfold horner at g4 ⊢
        rw [List.foldl_append, g4]; simp only [List.foldl_cons, List.foldl_nil]; omega
theorem decimal_text (n : Int) (h0 : 0 ≤ n) (h1 : n < 10000000000) : ∃ r, Ev (fun k => impl_Decimal.f k n) r ∧ Digits (bytesOf r) ∧ horner 0 (bytesOf r) = n ∧ (bytesOf r).length ≤ 10 ∧ 0 < (bytesOf r).length := by
  by_cases hz : n = 0
  · subst hz
    exact ⟨⟨#[48]⟩, ev_now' fun k => by unfold impl_Decimal.f; rw [if_pos rfl], by intro c hc; simp [bytesOf] at hc; omega, by simp [horner, bytesOf], by simp [bytesOf], by simp [bytesOf]⟩
  · obtain ⟨r, ds, g1, g2, g3, g4, g5, g6⟩ := decimal_digits n h0 10 n ⟨#[]⟩ h0 (by omega) (by omega) (by decide)
    have e : bytesOf r = ds := by rw [g2]; simp [bytesOf]
    refine ⟨r, Ev.congr (fun k => ?_) g1, by rw [e]; exact g3, by rw [e]; exact g4, by rw [e]; exact g5, ?_⟩
    · unfold impl_Decimal.f; rw [if_neg hz]
    · rw [e]; exact List.length_pos_iff.2 (g6 (by omega))
theorem getD_drop (l : List Int) (i : Nat) (c : Int) (cs : List Int) (h : l.drop i = c :: cs) : l.getD i 0 = c ∧ i < l.length ∧ l.drop (i + 1) = cs := by
  have hl : i < l.length := by
    by_cases hh : i < l.length
    · exact hh
    · rw [List.drop_eq_nil_of_le (by omega)] at h; exact absurd h (by simp)
  rw [List.drop_eq_getElem_cons hl] at h
  injection h with h1 h2
  exact ⟨by rw [List.getD_eq_getElem?_getD, List.getElem?_eq_getElem hl]; exact h1, hl, h2⟩
theorem readdec_loop (s : ByteArray) (n : Int) (hn : n ≤ 1000000000) (hlen : s.size ≤ 10) (hdec : Ev (fun k => impl_Decimal.f k n) s) (rest : List Int) : ∀ (a i : Int), 0 ≤ a → 0 ≤ i → (bytesOf s).drop i.toNat = rest → Digits rest → horner a rest = n →
    Ev (fun k => impl_ReadDecimal.l0 k s a i) (n, true) := by
  induction rest with
  | nil =>
    intro a i ha hi hd _ hh
    have hs : ¬ i < (s.size : Int) := by
      intro h
      have := List.drop_eq_nil_iff.1 hd
      rw [bo_size] at this; omega
    have e : a = n := hh
    subst e
    exact Ev.step (fun k => impl_ReadDecimal.l0.eq_2 s a i k) (ev_ite_neg hs (ev_ite_neg (by omega) (Ev.bind hdec (ev_ite_pos rfl (Ev.now _)))))
  | cons c cs ih =>
    intro a i ha hi hd hg hh
    obtain ⟨e1, e2, e3⟩ := getD_drop _ _ _ _ hd
    rw [bo_size] at e2
    have hc := hg c (by simp)
    have hb : bt s i = c := by rw [bt_bo]; exact e1
    have hge := horner_ge cs (fun x hx => hg x (by simp [hx])) (10 * a + (c - 48)) (by omega)
    have hh' : horner (10 * a + (c - 48)) cs = n := hh
    have e4 : wrap64 (10 * a) = 10 * a := w64 (by omega) (by omega)
    have e5 : (c - 48) % 256 = c - 48 := by omega
    have e6 : wrap64 (10 * a + (c - 48)) = 10 * a + (c - 48) := w64 (by omega) (by omega)
    have e7 : wrap64 (i + 1) = i + 1 := w64 (by omega) (by omega)
    refine Ev.step (fun k => impl_ReadDecimal.l0.eq_2 s a i k) (ev_ite_pos (by omega) (ev_ite_pos hi (ev_ite_neg (by omega) (ev_ite_neg (by omega) ?_))))
    rw [hb, e4, e5, e6, e7]
    exact ih _ (i + 1) (by omega) (by omega) (by rw [show (i + 1).toNat = i.toNat + 1 by omega]; exact e3) (fun x hx => hg x (by simp [hx])) hh'
/-- A number's text reads as the number. -/
theorem readdec_text (n : Int) (h0 : 0 ≤ n) (h1 : n ≤ 1000000000) : ∃ r, Ev (fun k => impl_Decimal.f k n) r ∧ Ev (fun k => impl_ReadDecimal.f k r) (n, true) ∧ Digits (bytesOf r) ∧ r.size ≤ 10 ∧ 0 < r.size := by
  obtain ⟨r, g1, g2, g3, g4, g5⟩ := decimal_text n h0 (by omega)
  rw [bo_size] at g4 g5
  refine ⟨r, g1, Ev.congr (fun k => ?_) (readdec_loop r n h1 g4 g1 (bytesOf r) 0 0 (by omega) (by omega) rfl g2 g3), g2, g4, g5⟩
  unfold impl_ReadDecimal.f
  rw [within_eq, Option.bind_some, if_pos (by simp; omega)]
/-! ### a text that is cut at a byte -/
def joinB (b : Int) : List (List Int) → List Int
  | [] => []
  | [p] => p
  | p :: q :: r => p ++ b :: joinB b (q :: r)
theorem cut_scan (s : ByteArray) (hs : s.size ≤ 1099511627776) (by_ : Int) (p tail : List Int) (out : List ByteArray) (fr : Int) (h0 : 0 ≤ fr) (hd : (bytesOf s).drop fr.toNat = p ++ tail) (hp : ∀ c ∈ p, c ≠ by_) (res : List ByteArray)
    (hend : Ev (fun k => impl_cut.l0 k s by_ out fr (fr + (p.length : Int))) res) (d : Nat) : ∀ i : Int, fr ≤ i → i ≤ fr + (p.length : Int) → fr + (p.length : Int) - i = d → Ev (fun k => impl_cut.l0 k s by_ out fr i) res := by
  induction d with
  | zero =>
    intro i h1 h2 h3
    rw [show i = fr + (p.length : Int) by omega]; exact hend
  | succ d ih =>
    intro i h1 h2 h3
    have hl := congrArg List.length hd
    rw [List.length_drop, bo_size, List.length_append] at hl
    have hw : wrap64 (i + 1) = i + 1 := w64 (by omega) (by omega)
    have hj : (i - fr).toNat < p.length := by omega
    have hb : bt s i = p[(i - fr).toNat] := by
      rw [bt_bo, List.getD_eq_getElem?_getD]
      have e : (bytesOf s)[i.toNat]? = ((bytesOf s).drop fr.toNat)[(i - fr).toNat]? := by rw [List.getElem?_drop]; congr 1; omega
      rw [e, hd, List.getElem?_append_left hj, List.getElem?_eq_getElem hj]; rfl
    have hne : ¬ bt s i = by_ := by rw [hb]; exact hp _ (List.getElem_mem _)
    refine Ev.step (fun k => impl_cut.l0.eq_2 s by_ out fr i k) (ev_ite_pos (by omega) (ev_ite_pos (by omega) (ev_ite_neg hne ?_)))
    rw [hw]; exact ih (i + 1) (by omega) (by omega) (by omega)
theorem cut_join (s : ByteArray) (hs : s.size ≤ 1099511627776) (by_ : Int) (ps : List (List Int)) : ∀ (out : List ByteArray) (fr : Int), 0 ≤ fr → fr ≤ (s.size : Int) → ps ≠ [] → (bytesOf s).drop fr.toNat = joinB by_ ps → (∀ p ∈ ps, ∀ c ∈ p, c ≠ by_) → out.length + ps.length ≤ 1000000 →
    ∃ rs, Ev (fun k => impl_cut.l0 k s by_ out fr fr) (out ++ rs) ∧ rs.map bytesOf = ps := by
  induction ps with
  | nil => intro out fr _ _ h; exact absurd rfl h
  | cons p r ih =>
    intro out fr h0 h1 _ hd hp hlim
    cases r with
    | nil =>
      have hd' : (bytesOf s).drop fr.toNat = p ++ [] := by rw [hd]; simp [joinB]
      have hl := congrArg List.length hd'
      rw [List.length_drop, bo_size, List.length_append] at hl
      simp only [List.length_nil] at hl
      refine ⟨[s.extract fr.toNat s.size], cut_scan s hs by_ p [] out fr h0 hd' (hp p (by simp)) _ ?_ p.length fr (by omega) (by omega) (by omega), ?_⟩
      · refine Ev.step (fun k => impl_cut.l0.eq_2 s by_ out fr _ k) (ev_ite_neg (by omega) (ev_ite_pos h0 (ev_ite_pos h1 (ev_ite_pos (by simp at hlim; omega) (Ev.now _)))))
      · simp only [List.map_cons, List.map_nil]
        rw [bo_extract, List.take_of_length_le (by rw [bo_size]; omega), hd', List.append_nil]
    | cons q r =>
      have hd' : (bytesOf s).drop fr.toNat = p ++ by_ :: joinB by_ (q :: r) := hd
      have hl := congrArg List.length hd'
      rw [List.length_drop, bo_size, List.length_append, List.length_cons] at hl
      have hnext : (bytesOf s).drop (fr + (p.length : Int)).toNat = by_ :: joinB by_ (q :: r) := by
        rw [show (fr + (p.length : Int)).toNat = fr.toNat + p.length by omega, ← List.drop_drop, hd', List.drop_left]
      obtain ⟨e1, e2, e3⟩ := getD_drop _ _ _ _ hnext
      rw [bo_size] at e2
      have hw : wrap64 (fr + (p.length : Int) + 1) = fr + (p.length : Int) + 1 := w64 (by omega) (by omega)
      obtain ⟨rs, g1, g2⟩ := ih (out ++ [s.extract fr.toNat (fr + (p.length : Int)).toNat]) (fr + (p.length : Int) + 1) (by omega) (by omega) (by simp) (by rw [show (fr + (p.length : Int) + 1).toNat = (fr + (p.length : Int)).toNat + 1 by omega]; exact e3) (fun x hx => hp x (by simp [hx])) (by simp at hlim ⊢; omega)
      refine ⟨s.extract fr.toNat (fr + (p.length : Int)).toNat :: rs, cut_scan s hs by_ p (by_ :: joinB by_ (q :: r)) out fr h0 hd' (hp p (by simp)) _ ?_ p.length fr (by omega) (by omega) (by omega), ?_⟩
      · refine Ev.step (fun k => impl_cut.l0.eq_2 s by_ out fr _ k) (ev_ite_pos (by omega) (ev_ite_pos (by omega) (ev_ite_pos (by rw [bt_bo]; exact e1) (ev_ite_pos h0 (ev_ite_pos (by omega) (ev_ite_pos (by omega) (ev_ite_pos (by simp at hlim; omega) ?_)))))))
        rw [hw]
        simpa using g1
      · simp only [List.map_cons, g2]
        congr 1
        rw [bo_extract, List.drop_take, hd', show (fr + (p.length : Int)).toNat - fr.toNat = p.length by omega, List.take_left]
/-- A text that is joined of parts without a byte is cut into these parts there. -/
theorem cut_text (s : ByteArray) (hs : s.size ≤ 1099511627776) (by_ : Int) (ps : List (List Int)) (hn : ps ≠ []) (hj : bytesOf s = joinB by_ ps) (hp : ∀ p ∈ ps, ∀ c ∈ p, c ≠ by_) (hlim : ps.length ≤ 1000000) :
    ∃ rs, Ev (fun k => impl_cut.f k s by_) rs ∧ rs.map bytesOf = ps := by
  obtain ⟨rs, g1, g2⟩ := cut_join s hs by_ ps [] 0 (by omega) (by omega) hn (by simpa using hj) hp (by simpa using hlim)
  rw [List.nil_append] at g1
  exact ⟨rs, g1, g2⟩
/-! ### a layout's text, and what it reads as -/
def Small (xs : List Int) : Prop := ∀ x ∈ xs, x ≤ 1000000
/-- The bytes of one number of a list. -/
def OneText (x : Int) (p : List Int) : Prop := (∀ c ∈ p, c ≠ 44 ∧ c ≠ 47) ∧ p.length ≤ 10 ∧ 0 < p.length ∧ ∀ s : ByteArray, bytesOf s = p → ∃ v ok, Ev (fun k => impl_ReadDecimal.f k s) (v, ok) ∧ (if ok = true then v else -1) = (if x < 0 then -1 else x)
theorem bo_one (c : Int) (h : 0 ≤ c ∧ c < 256) (s : ByteArray) : s = strOfNums [c] → bytesOf s = [c] := fun e => by rw [e]; exact bo_sons _ (by simpa using h)
theorem x_text : OneText (-1) [120] := by
  refine ⟨by simp, by simp, by simp, fun s hs => ⟨0, false, ?_, by simp⟩⟩
  have hz : s.size = 1 := by rw [← bo_size, hs]; rfl
  have hb : bt s 0 = 120 := by rw [bt_bo, hs]; rfl
  have g : Ev (fun k => impl_ReadDecimal.l0 k s 0 0) (0, false) := Ev.step (fun k => impl_ReadDecimal.l0.eq_2 s 0 0 k) (ev_ite_pos (by omega) (ev_ite_pos (Int.le_refl 0) (ev_ite_neg (by rw [hb]; decide) (ev_ite_pos (by rw [hb]; decide) (Ev.now _)))))
  refine Ev.congr (fun k => ?_) g
  unfold impl_ReadDecimal.f
  rw [within_eq, Option.bind_some, if_pos (by simp; omega)]
theorem num_text (x : Int) (h0 : 0 ≤ x) (h1 : x ≤ 1000000) : ∃ r, Ev (fun k => impl_Decimal.f k x) r ∧ OneText x (bytesOf r) ∧ r.size ≤ 10 := by
  obtain ⟨r, g1, g2, g3, g4, g5⟩ := readdec_text x h0 (by omega)
  refine ⟨r, g1, ⟨fun c hc => ?_, by rw [bo_size]; exact g4, by rw [bo_size]; exact g5, fun s hs => ⟨x, true, ?_, by rw [if_pos rfl, if_neg (by omega)]⟩⟩, g4⟩
  · have := g3 c hc; omega
  · rw [bo_inj hs]; exact g2
theorem joinB_snoc (b : Int) (ps : List (List Int)) (q : List Int) (h : ps ≠ []) : joinB b (ps ++ [q]) = joinB b ps ++ b :: q := by
  induction ps with
  | nil => exact absurd rfl h
  | cons p r ih =>
    cases r with
    | nil => simp [joinB]
    | cons p2 r =>
      have := ih (by simp)
      simp only [List.cons_append, joinB] at this ⊢
      rw [this]; simp
/-- What stands for each number of a list. -/
def TextsOf (xs : List Int) (ps : List (List Int)) : Prop := ps.length = xs.length ∧ ∀ j (h : j < xs.length) (h' : j < ps.length), OneText xs[j] ps[j]
theorem commas_texts (xs : List Int) (hx : xs.length ≤ 1000) (hv : ∀ x ∈ xs, -1 ≤ x ∧ x ≤ 1000000) (d : Nat) : ∀ (t : ByteArray) (i : Int) (ps : List (List Int)), 0 ≤ i → i ≤ (xs.length : Int) → (xs.length : Int) - i = d → bytesOf t = joinB 44 ps → (ps.length : Int) = i → (t.size : Int) ≤ 11 * i →
    (∀ j (h : j < xs.length) (h' : j < ps.length), OneText xs[j] ps[j]) →
    ∃ r qs, Ev (fun k => impl_commas.l0 k t xs (xs.length : Int) i) r ∧ bytesOf r = joinB 44 qs ∧ TextsOf xs qs ∧ r.size ≤ 11 * xs.length := by
  induction d with
  | zero =>
    intro t i ps h0 h1 hd hb hl ht hone
    refine ⟨t, ps, Ev.step (fun k => impl_commas.l0.eq_2 t xs _ i k) (ev_ite_neg (by omega) (Ev.now _)), hb, ⟨by omega, hone⟩, by omega⟩
  | succ d ih =>
    intro t i ps h0 h1 hd hb hl ht hone
    have hlt : i < (xs.length : Int) := by omega
    have hw : wrap64 (i + 1) = i + 1 := w64 (by omega) (by omega)
    have hi : i.toNat < xs.length := by omega
    have hrd : rd xs i = xs[i.toNat] := by unfold rd; rw [List.getD_eq_getElem?_getD, List.getElem?_eq_getElem hi]; rfl
    have hxi := hv _ (List.getElem_mem hi)
    have c1 : (⟨#[44]⟩ : ByteArray).size = 1 := rfl
    have b44 : bytesOf (⟨#[44]⟩ : ByteArray) = [44] := rfl
    have hstep : ∀ q : List Int, OneText xs[i.toNat] q → ∀ j (h : j < xs.length) (h' : j < (ps ++ [q]).length), OneText xs[j] (ps ++ [q])[j] := by
      intro q hq j h h'
      by_cases hj : j < ps.length
      · rw [List.getElem_append_left hj]; exact hone j h hj
      · have e : j = i.toNat := by simp at h'; omega
        subst e
        rw [List.getElem_append_right (by omega)]
        simpa using hq
    have go : ∀ (s : ByteArray), OneText xs[i.toNat] (bytesOf s) → s.size ≤ 10 → ∀ (t' : ByteArray), t' = (if i > 0 then t ++ (⟨#[44]⟩ : ByteArray) else t) ++ s → ∃ r qs, Ev (fun k => impl_commas.l0 k t' xs (xs.length : Int) (wrap64 (i + 1))) r ∧ bytesOf r = joinB 44 qs ∧ TextsOf xs qs ∧ r.size ≤ 11 * xs.length := by
      intro s hs hsz t' ht'
      rw [hw]
      refine ih t' (i + 1) (ps ++ [bytesOf s]) (by omega) (by omega) (by omega) ?_ (by simp; omega) ?_ (hstep _ hs)
      · rw [ht']
        by_cases hpos : i > 0
        · rw [if_pos hpos, bo_append, bo_append, b44, joinB_snoc _ _ _ (by intro h; rw [h] at hl; simp at hl; omega), hb]; simp
        · have e : ps = [] := List.length_eq_zero_iff.1 (by omega)
          rw [if_neg hpos, bo_append, hb, e]; simp [joinB]
      · rw [ht', ByteArray.size_append]
        by_cases hpos : i > 0
        · rw [if_pos hpos, ByteArray.size_append, c1]; omega
        · rw [if_neg hpos]; omega
    by_cases hneg : rd xs i < 0
    · have e : xs[i.toNat] = -1 := by omega
      obtain ⟨r, qs, g⟩ := go (⟨#[120]⟩ : ByteArray) (by rw [e]; exact x_text) (by decide) _ rfl
      refine ⟨r, qs, ?_, g.2⟩
      by_cases hpos : i > 0
      · have z := g.1; rw [if_pos hpos] at z
        exact Ev.step (fun k => impl_commas.l0.eq_2 t xs _ i k) (ev_ite_pos hlt (ev_ite_pos h0 (ev_ite_pos hlt (ev_ite_pos hpos (ev_ite_pos (by omega) (ev_ite_pos hneg (ev_ite_pos (by rw [ByteArray.size_append, c1]; omega) z)))))))
      · have z := g.1; rw [if_neg hpos] at z
        exact Ev.step (fun k => impl_commas.l0.eq_2 t xs _ i k) (ev_ite_pos hlt (ev_ite_pos h0 (ev_ite_pos hlt (ev_ite_neg hpos (ev_ite_pos hneg (ev_ite_pos (by omega) z))))))
    · obtain ⟨s, q1, q2, q3⟩ := num_text xs[i.toNat] (by omega) (by omega)
      obtain ⟨r, qs, g⟩ := go s q2 q3 _ rfl
      refine ⟨r, qs, ?_, g.2⟩
      rw [← hrd] at q1
      by_cases hpos : i > 0
      · have z := g.1; rw [if_pos hpos] at z
        exact Ev.step (fun k => impl_commas.l0.eq_2 t xs _ i k) (ev_ite_pos hlt (ev_ite_pos h0 (ev_ite_pos hlt (ev_ite_pos hpos (ev_ite_pos (by omega) (ev_ite_neg hneg (Ev.bind q1 (ev_ite_pos (by rw [ByteArray.size_append, c1]; omega) z))))))))
      · have z := g.1; rw [if_neg hpos] at z
        exact Ev.step (fun k => impl_commas.l0.eq_2 t xs _ i k) (ev_ite_pos hlt (ev_ite_pos h0 (ev_ite_pos hlt (ev_ite_neg hpos (ev_ite_neg hneg (Ev.bind q1 (ev_ite_pos (by omega) z)))))))
theorem commas_text (xs : List Int) (hx : xs.length ≤ 1000) (hv : ∀ x ∈ xs, -1 ≤ x ∧ x ≤ 1000000) : ∃ r qs, Ev (fun k => impl_commas.f k xs) r ∧ bytesOf r = joinB 44 qs ∧ TextsOf xs qs ∧ r.size ≤ 11 * xs.length :=
  commas_texts xs hx hv xs.length ⟨#[]⟩ 0 [] (by omega) (by omega) (by omega) rfl rfl (by decide) (by intro j _ h'; exact absurd h' (by simp))
theorem uncommas_texts (xs : List Int) (hx : xs.length ≤ 1000) (hv : ∀ x ∈ xs, -1 ≤ x) (ls : List ByteArray) (hl : ls.length = xs.length) (hone : ∀ j (h : j < xs.length) (h' : j < ls.length), OneText xs[j] (bytesOf ls[j])) (d : Nat) : ∀ i : Int, 0 ≤ i → i ≤ (ls.length : Int) → (ls.length : Int) - i = d →
    Ev (fun k => impl_uncommas.l0 k (xs.take i.toNat) ls (ls.length : Int) i) xs := by
  induction d with
  | zero =>
    intro i h0 h1 hd
    rw [List.take_of_length_le (by omega)]
    exact Ev.step (fun k => impl_uncommas.l0.eq_2 _ ls _ i k) (ev_ite_neg (by omega) (Ev.now _))
  | succ d ih =>
    intro i h0 h1 hd
    have hlt : i < (ls.length : Int) := by omega
    have hi : i.toNat < ls.length := by omega
    have hi' : i.toNat < xs.length := by omega
    have hw : wrap64 (i + 1) = i + 1 := w64 (by omega) (by omega)
    have hlim : (xs.take i.toNat).length < 17592186044416 := by rw [List.length_take]; omega
    have hrd : rdOf ByteArray.empty ls i = ls[i.toNat] := by unfold rdOf; rw [List.getD_eq_getElem?_getD, List.getElem?_eq_getElem hi]; rfl
    obtain ⟨v, ok, q1, q2⟩ := (hone i.toNat hi' hi).2.2.2 _ rfl
    rw [← hrd] at q1
    have hxi := hv _ (List.getElem_mem hi')
    have hnext : xs.take (i + 1).toNat = xs.take i.toNat ++ [if ok = true then v else -1] := by
      rw [q2, show (i + 1).toNat = i.toNat + 1 by omega, List.take_add_one, List.getElem?_eq_getElem hi']
      congr 1
      simp only [Option.toList_some]
      congr 1
      split <;> omega
    have g := ih (i + 1) (by omega) (by omega) (by omega)
    rw [hnext] at g
    refine Ev.step (fun k => impl_uncommas.l0.eq_2 _ ls _ i k) (ev_ite_pos hlt (ev_ite_pos h0 (ev_ite_pos hlt (Ev.bind q1 ?_))))
    rw [hw]
    cases ok with
    | true => exact ev_ite_pos rfl (ev_ite_pos hlim (by simpa using g))
    | false => exact ev_ite_neg (fun h => Bool.noConfusion h) (ev_ite_pos hlim (by simpa using g))
theorem joinB_len (b : Int) (ps : List (List Int)) : ∀ p ∈ ps, p.length ≤ (joinB b ps).length := by
  induction ps with
  | nil => intro p hp; exact absurd hp (by simp)
  | cons q r ih =>
    cases r with
    | nil => intro p hp; rw [List.mem_singleton.1 hp]; exact Nat.le_refl _
    | cons q2 r =>
      intro p hp
      simp only [joinB, List.length_append, List.length_cons]
      rcases List.mem_cons.1 hp with rfl | hp
      · omega
      · have := ih p hp; omega
theorem joinB_mem (b : Int) (ps : List (List Int)) : ∀ c ∈ joinB b ps, c = b ∨ ∃ p ∈ ps, c ∈ p := by
  induction ps with
  | nil => intro c hc; exact absurd hc (by simp [joinB])
  | cons q r ih =>
    cases r with
    | nil => intro c hc; exact Or.inr ⟨q, by simp, hc⟩
    | cons q2 r =>
      intro c hc
      simp only [joinB, List.mem_append, List.mem_cons] at hc
      rcases hc with hc | rfl | hc
      · exact Or.inr ⟨q, by simp, hc⟩
      · exact Or.inl rfl
      · rcases ih c hc with h | ⟨p, h1, h2⟩
        · exact Or.inl h
        · exact Or.inr ⟨p, by simp at h1 ⊢; exact Or.inr h1, h2⟩
/-- A list of numbers comes back from its text. -/
theorem uncommas_text (xs : List Int) (hx : xs.length ≤ 1000) (hn : xs ≠ []) (hv : ∀ x ∈ xs, -1 ≤ x) (s : ByteArray) (qs : List (List Int)) (hs : bytesOf s = joinB 44 qs) (hq : TextsOf xs qs) (hz : s.size ≤ 1000000) : Ev (fun k => impl_uncommas.f k s) xs := by
  obtain ⟨hql, hqo⟩ := hq
  have hmem : ∀ p ∈ qs, ∀ c ∈ p, c ≠ 44 := by
    intro p hp c hc
    obtain ⟨j, hj, rfl⟩ := List.getElem_of_mem hp
    exact ((hqo j (by omega) hj).1 c hc).1
  obtain ⟨rs, g1, g2⟩ := cut_text s (by omega) 44 qs (by intro h; rw [h] at hql; exact hn (List.length_eq_zero_iff.1 hql.symm)) hs hmem (by omega)
  have hl : rs.length = xs.length := by rw [← hql, ← g2, List.length_map]
  have g := uncommas_texts xs hx hv rs hl (by
    intro j h h'
    have e : bytesOf rs[j] = qs[j]'(by omega) := by simp only [← g2, List.getElem_map]
    rw [e]; exact hqo j h (by omega)) rs.length 0 (by omega) (by omega) (by omega)
  exact Ev.bind g1 (by simpa using g)
/-! ### drawn numbers -/
theorem and255 (x : Int) : 0 ≤ Go.bits .and .i64 x 255 ∧ Go.bits .and .i64 x 255 ≤ 255 := by
  have h : ((BitVec.ofInt 64 x).toNat &&& 255) ≤ 255 := Nat.and_le_right
  have e : Go.bits .and .i64 x 255 = IntKind.i64.wrap (((BitVec.ofInt 64 x).toNat &&& 255 : Nat) : Int) := by
    unfold Go.bits
    simp only [BitVec.toNat_and]
    rfl
  rw [e, IntKind.wrap_i64]; omega
/-- A cursor whose place is right. -/
def Cur (b : List Int) (i : Int) : Prop := b.length ≤ 1048576 ∧ 0 ≤ i ∧ i ≤ (b.length : Int)
theorem byte_ev (b : List Int) (i h : Int) (hc : Cur b i) : ∃ x i' h', spec_l01Byte.f b i h = some (x, i', h') ∧ 0 ≤ x ∧ x ≤ 255 ∧ Cur b i' := by
  obtain ⟨h1, h2, h3⟩ := hc
  unfold spec_l01Byte.f
  by_cases hl : i < (b.length : Int)
  · rw [if_pos hl, if_pos h2, w64 (x := i + 1) (by omega) (by omega)]
    have := and255 (wrap64 (Go.bits .and .i64 (Go.bits .xor .i64 (wrap64 (wrap64 (h * 6364136223846793005) + 1442695040888963407) / 8589934592) (wrap64 (wrap64 (h * 6364136223846793005) + 1442695040888963407) / 35184372088832)) 255 + wrap64 (rd b i)))
    exact ⟨_, _, _, rfl, this.1, this.2, h1, by omega, by omega⟩
  · rw [if_neg hl]
    have := and255 (Go.bits .xor .i64 (wrap64 (wrap64 (h * 6364136223846793005) + 1442695040888963407) / 8589934592) (wrap64 (wrap64 (h * 6364136223846793005) + 1442695040888963407) / 35184372088832))
    exact ⟨_, _, _, rfl, this.1, this.2, h1, h2, h3⟩
/-- A number below n (at most 256). -/
theorem below_ev (b : List Int) (i h n : Int) (hc : Cur b i) (h1 : 1 ≤ n) (h2 : n ≤ 256) : ∃ x i' h', spec_l01Below.f b i h n = some (x, i', h') ∧ 0 ≤ x ∧ x < n ∧ Cur b i' := by
  obtain ⟨x, i', h', g, g0, g1, g2⟩ := byte_ev b i h hc
  refine ⟨Int.tmod x n, i', h', ?_, ?_, ?_, g2⟩
  · unfold spec_l01Below.f
    rw [if_neg (by omega), if_pos h2, g, Option.bind_some, if_neg (by omega)]
  · rw [Int.tmod_eq_emod_of_nonneg g0]; exact Int.emod_nonneg _ (by omega)
  · rw [Int.tmod_eq_emod_of_nonneg g0]; exact Int.emod_lt_of_pos _ (by omega)
theorem once_ev (b : List Int) (i h n : Int) (hc : Cur b i) (h1 : 1 ≤ n) (h2 : n ≤ 256) : ∃ x i' h', spec_l01Once.f b i h n = some (x, i', h') ∧ Cur b i' := by
  obtain ⟨x, i', h', g, _, _, g2⟩ := below_ev b i h n hc h1 h2
  exact ⟨_, _, _, by unfold spec_l01Once.f; rw [g, Option.bind_some], g2⟩
theorem new_loop (b : List Int) (hb : b.length ≤ 1048576) (d : Nat) : ∀ h i : Int, 0 ≤ i → i ≤ (b.length : Int) → (b.length : Int) - i = d → ∃ h', Ev (fun k => spec_l01New.l0 k b h i) (b, 0, h') := by
  induction d with
  | zero =>
    intro h i h0 h1 hd
    exact ⟨h, Ev.step (fun k => spec_l01New.l0.eq_2 b h i k) (ev_ite_neg (by omega) (Ev.now _))⟩
  | succ d ih =>
    intro h i h0 h1 hd
    by_cases hi : i < 4000
    · obtain ⟨h', g⟩ := ih (Go.bits .and .i64 (wrap64 (wrap64 (wrap64 (h * 131) + wrap64 (rd b i)) + 7)) 1073741823) (i + 1) (by omega) (by omega) (by omega)
      refine ⟨h', Ev.step (fun k => spec_l01New.l0.eq_2 b h i k) (ev_ite_pos (by omega) (ev_ite_pos hi (ev_ite_pos h0 ?_)))⟩
      rw [show wrap64 (i + 1) = i + 1 from w64 (by omega) (by omega)]
      exact g
    · exact ⟨h, Ev.step (fun k => spec_l01New.l0.eq_2 b h i k) (ev_ite_pos (by omega) (ev_ite_neg hi (Ev.now _)))⟩
theorem new_ev (b : List Int) (hb : b.length ≤ 1048576) : ∃ h', Ev (fun k => spec_l01New.f k b) (b, 0, h') := new_loop b hb b.length _ 0 (by omega) (by omega) (by omega)
/-! ### right layouts, in the program alone -/
theorem who_in_true (w c r : List Int) (hw : w.length ≤ 1099511627776) (i : Int) (hi0 : 0 ≤ i) (hi1 : i < (w.length : Int)) (hok : ∀ j : Int, 0 ≤ j → j < i → rd w i ≥ 0 → rd w j ≠ rd w i)
    (hg : Ev (fun k => impl_LayoutOk.l0 k w (w.length : Int) (i + 1) c r w) true) (d : Nat) : ∀ j : Int, 0 ≤ j → j ≤ i → i - j = d →
      Ev (fun k => impl_LayoutOk.l1 k (rd w i) w (w.length : Int) i (w.take i.toNat) ((w.take i.toNat).length : Int) j c r w) true := by
  have hlen : (((w.take i.toNat).length : Nat) : Int) = i := by rw [List.length_take]; omega
  induction d with
  | zero =>
    intro j h0 h1 hd
    refine Ev.step (fun k => impl_LayoutOk.l1.eq_2 (rd w i) w _ i _ _ j c r w k) (ev_ite_neg (by omega) ?_)
    rw [show wrap64 (i + 1) = i + 1 from w64 (by omega) (by omega)]; exact hg
  | succ d ih =>
    intro j h0 h1 hd
    have hlt : j < i := by omega
    have hn := ih (j + 1) (by omega) (by omega) (by omega)
    have hw1 : wrap64 (j + 1) = j + 1 := w64 (by omega) (by omega)
    refine Ev.step (fun k => impl_LayoutOk.l1.eq_2 (rd w i) w _ i _ _ j c r w k) (ev_ite_pos (by omega) (ev_ite_pos h0 (ev_ite_pos (by omega) ?_)))
    rw [hw1]
    by_cases hpos : rd w i ≥ 0
    · exact ev_ite_pos hpos (ev_ite_neg (by rw [rd_take w i j h0 hlt]; exact hok j h0 hlt hpos) hn)
    · exact ev_ite_neg hpos hn
theorem who_out_true (w c r : List Int) (hw : w.length ≤ 1099511627776) (h : WhoOk w) (d : Nat) : ∀ i : Int, 0 ≤ i → i ≤ (w.length : Int) → (w.length : Int) - i = d → Ev (fun k => impl_LayoutOk.l0 k w (w.length : Int) i c r w) true := by
  induction d with
  | zero =>
    intro i h0 h1 hd
    exact Ev.step (fun k => impl_LayoutOk.l0.eq_2 w _ i c r w k) (ev_ite_neg (by omega) (Ev.now _))
  | succ d ih =>
    intro i h0 h1 hd
    have hlt : i < (w.length : Int) := by omega
    obtain ⟨hin, hok⟩ := h i h0 hlt
    have g := who_in_true w c r hw i h0 hlt hok (ih (i + 1) (by omega) (by omega) (by omega)) i.toNat 0 (by omega) h0 (by omega)
    exact Ev.step (fun k => impl_LayoutOk.l0.eq_2 w _ i c r w k) (ev_ite_pos hlt (ev_ite_pos h0 (ev_ite_pos hlt (ev_bind_some (within_eq _ _ _) (ev_ite_pos (by simpa using hin) (ev_ite_pos h1 g))))))
theorem layoutOk_true (c r w : List Int) (hc : c.length ≤ 2097152) (hr : r.length ≤ 2097152) (hw : w.length ≤ 1099511627776) (h : LayP c r w) : Ev (fun k => impl_LayoutOk.f k c r w) true := by
  obtain ⟨h0, hl, hwk⟩ := h
  have hm : 0 ≤ (c.length : Int) * (r.length : Int) ∧ (c.length : Int) * (r.length : Int) ≤ 2097152 * 2097152 := ⟨Int.mul_nonneg (by omega) (by omega), Int.mul_le_mul (by omega) (by omega) (by omega) (by omega)⟩
  have hmw : wrap64 ((c.length : Int) * (r.length : Int)) = (c.length : Int) * (r.length : Int) := w64 (by omega) (by omega)
  have hbq : ((w.length : Int) != wrap64 ((c.length : Int) * (r.length : Int))) = false := by rw [hmw, bne_eq_false_iff_eq]; exact hl
  refine Ev.bind (levelFor_impl c r (by omega) (by omega)) (ev_ite_neg h0 ?_)
  rw [hbq]; exact Ev.step (fun k => impl_LayoutOk.j0.eq_2 false c r w k) (ev_ite_neg (by decide) (who_out_true w c r hw hwk w.length 0 (by omega) (by omega) (by omega)))
/-- Where an input stands in a right layout. -/
theorem cell_loop (v : Int) (w : List Int) (hw : w.length ≤ 1099511627776) (d : Nat) : ∀ i : Int, 0 ≤ i → i ≤ (w.length : Int) → (w.length : Int) - i = d → ∃ a, Ev (fun k => impl_CellOf.l0 k v w (w.length : Int) i) a := by
  induction d with
  | zero => intro i h0 h1 hd; exact ⟨_, Ev.step (fun k => impl_CellOf.l0.eq_2 v w _ i k) (ev_ite_neg (by omega) (Ev.now _))⟩
  | succ d ih =>
    intro i h0 h1 hd
    by_cases he : rd w i = v
    · exact ⟨_, Ev.step (fun k => impl_CellOf.l0.eq_2 v w _ i k) (ev_ite_pos (by omega) (ev_ite_pos h0 (ev_ite_pos (by omega) (ev_ite_pos he (Ev.now _)))))⟩
    · obtain ⟨a, g⟩ := ih (i + 1) (by omega) (by omega) (by omega)
      refine ⟨a, Ev.step (fun k => impl_CellOf.l0.eq_2 v w _ i k) (ev_ite_pos (by omega) (ev_ite_pos h0 (ev_ite_pos (by omega) (ev_ite_neg he ?_))))⟩
      rw [w64 (by omega) (by omega)]; exact g
theorem cell_some (c r w : List Int) (hc : c.length ≤ 2097152) (hr : r.length ≤ 2097152) (hw : w.length ≤ 1099511627776) (h : LayP c r w) (v : Int) (hv : 0 ≤ v) : ∃ a, Ev (fun k => impl_CellOf.f k c r w v) a := by
  obtain ⟨a, g⟩ := cell_loop v w hw w.length 0 (by omega) (by omega) (by omega)
  refine ⟨a, Ev.bind (layoutOk_true c r w hc hr hw h) (ev_ite_pos rfl ?_)⟩
  rw [decide_eq_false (by omega)]
  exact Ev.step (fun k => impl_CellOf.j0.eq_2 v false c r w k) (ev_ite_neg (by decide) g)
theorem cell_at_loop (w : List Int) (hw : w.length ≤ 1099511627776) (t : Int) (ht0 : 0 ≤ t) (ht1 : t < (w.length : Int)) (hok : ∀ j : Int, 0 ≤ j → j < t → rd w j ≠ rd w t) (d : Nat) : ∀ i : Int, 0 ≤ i → i ≤ t → t - i = d → Ev (fun k => impl_CellOf.l0 k (rd w t) w (w.length : Int) i) t := by
  induction d with
  | zero =>
    intro i h0 h1 hd
    obtain rfl : i = t := by omega
    exact Ev.step (fun k => impl_CellOf.l0.eq_2 _ w _ i k) (ev_ite_pos (by omega) (ev_ite_pos h0 (ev_ite_pos (by omega) (ev_ite_pos rfl (Ev.now _)))))
  | succ d ih =>
    intro i h0 h1 hd
    refine Ev.step (fun k => impl_CellOf.l0.eq_2 _ w _ i k) (ev_ite_pos (by omega) (ev_ite_pos h0 (ev_ite_pos (by omega) (ev_ite_neg (hok i h0 (by omega)) ?_))))
    rw [w64 (by omega) (by omega)]; exact ih (i + 1) (by omega) (by omega) (by omega)
theorem cell_at (c r w : List Int) (hc : c.length ≤ 2097152) (hr : r.length ≤ 2097152) (hw : w.length ≤ 1099511627776) (h : LayP c r w) (t : Int) (ht0 : 0 ≤ t) (ht1 : t < (w.length : Int)) (hv : rd w t ≥ 0) : Ev (fun k => impl_CellOf.f k c r w (rd w t)) t := by
  refine Ev.bind (layoutOk_true c r w hc hr hw h) (ev_ite_pos rfl ?_)
  rw [decide_eq_false (by omega)]
  exact Ev.step (fun k => impl_CellOf.j0.eq_2 _ false c r w k) (ev_ite_neg (by decide) (cell_at_loop w hw t ht0 ht1 (fun j h0 h1 => (h.2.2 t ht0 ht1).2 j h0 h1 hv) t.toNat 0 (by omega) ht0 (by omega)))
/-! ### drawn layouts -/
def SmallSides (l : List Int) : Prop := (1 ≤ l.length ∧ l.length ≤ 3) ∧ ∀ x ∈ l, x = 1 ∨ x = 2
theorem sides_loop (b : List Int) (d : Nat) : ∀ (out : List Int) (i ci h : Int), 0 ≤ i → i ≤ 3 → 3 - i = d → (out.length : Int) = i → (∀ x ∈ out, x = 1 ∨ x = 2) → Cur b ci →
    ∃ l ci' h', Ev (fun k => spec_l05Sides.l0 k out i b ci h) (l, ci', h') ∧ l.length ≤ 3 ∧ out.length ≤ l.length ∧ (i = 0 → 1 ≤ l.length) ∧ (∀ x ∈ l, x = 1 ∨ x = 2) ∧ Cur b ci' := by
  induction d with
  | zero =>
    intro out i ci h h0 h1 hd hl ho hc
    obtain ⟨x, i', h', g, g0, g1, g2⟩ := below_ev b ci h 3 hc (by omega) (by omega)
    exact ⟨out, i', h', Ev.step (fun k => spec_l05Sides.l0.eq_2 out i b ci h k) (ev_bind_some g (ev_ite_neg (by simp only; omega) (Ev.now _))), by omega, Nat.le_refl _, by omega, ho, g2⟩
  | succ d ih =>
    intro out i ci h h0 h1 hd hl ho hc
    obtain ⟨x, i', h', g, g0, g1, g2⟩ := below_ev b ci h 3 hc (by omega) (by omega)
    by_cases hx : i ≤ x
    · obtain ⟨y, i2, h2, k0, k1, k2, k3⟩ := below_ev b i' h' 2 g2 (by omega) (by omega)
      have hw : wrap64 (1 + y) = 1 + y := w64 (by omega) (by omega)
      obtain ⟨l, ci', hh, e1, e2, e3, e4, e5, e6⟩ := ih (out ++ [1 + y]) (i + 1) i2 h2 (by omega) (by omega) (by omega) (by simp; omega) (by
        intro z hz
        rcases List.mem_append.1 hz with hz | hz
        · exact ho z hz
        · rw [List.mem_singleton.1 hz]; omega) k3
      rw [List.length_append, List.length_singleton] at e3
      refine ⟨l, ci', hh, Ev.step (fun k => spec_l05Sides.l0.eq_2 out i b ci h k) (ev_bind_some g (ev_ite_pos hx (ev_bind_some k0 (ev_ite_pos (by omega) ?_)))), e2, by omega, by omega, e5, e6⟩
      simp only
      rw [hw, w64 (x := i + 1) (by omega) (by omega)]; exact e1
    · exact ⟨out, i', h', Ev.step (fun k => spec_l05Sides.l0.eq_2 out i b ci h k) (ev_bind_some g (ev_ite_neg hx (Ev.now _))), by omega, Nat.le_refl _, by omega, ho, g2⟩
theorem sides_ev (b : List Int) (ci h : Int) (hc : Cur b ci) : ∃ l ci' h', Ev (fun k => spec_l05Sides.f k b ci h) (l, ci', h') ∧ SmallSides l ∧ Cur b ci' := by
  obtain ⟨l, ci', h', e1, e2, e3, e4, e5, e6⟩ := sides_loop b 3 [] 0 ci h (by omega) (by omega) (by omega) (by simp) (by simp) hc
  exact ⟨l, ci', h', e1, ⟨⟨e4 rfl, e2⟩, e5⟩, e6⟩
/-- What is drawn for a layout's inputs. -/
def Drawn6 (first : Int) (w : List Int) : Prop := ∀ j : Int, 0 ≤ j → j < (w.length : Int) → rd w j = -1 ∨ j < 6 ∧ rd w j = (first + j) % 6
theorem drawn6_snoc (first : Int) (w : List Int) (h : Drawn6 first w) (v : Int) (hv : v = -1 ∨ (w.length : Int) < 6 ∧ v = (first + (w.length : Int)) % 6) : Drawn6 first (w ++ [v]) := by
  intro j h0 h1
  rw [List.length_append, List.length_singleton] at h1
  by_cases hj : j < (w.length : Int)
  · have e : rd (w ++ [v]) j = rd w j := by unfold rd; rw [List.getD_eq_getElem?_getD, List.getD_eq_getElem?_getD, List.getElem?_append_left (by omega)]
    rw [e]; exact h j h0 hj
  · have e : j = (w.length : Int) := by omega
    have e2 : rd (w ++ [v]) j = v := by unfold rd; rw [List.getD_eq_getElem?_getD, List.getElem?_append_right (by omega), show j.toNat - w.length = 0 by omega]; rfl
    rw [e2, e]; exact hv
theorem right_loop (b c r : List Int) (first : Int) (hf : 0 ≤ first ∧ first < 6) (n : Int) (hn : n = (c.length : Int) * (r.length : Int)) (hn1 : n ≤ 9) (d : Nat) : ∀ (w : List Int) (i ci h : Int), 0 ≤ i → i ≤ n → n - i = d → (w.length : Int) = i → Drawn6 first w → Cur b ci →
    ∃ w' ci' h', Ev (fun k => spec_l25Right.l0 k first i b ci h c r w) (c, r, w', ci', h') ∧ (w'.length : Int) = n ∧ Drawn6 first w' ∧ Cur b ci' := by
  have hwn : wrap64 ((c.length : Int) * (r.length : Int)) = n := by rw [← hn]; exact w64 (by rw [hn]; have := Int.mul_nonneg (show (0 : Int) ≤ (c.length : Int) by omega) (show (0 : Int) ≤ (r.length : Int) by omega); omega) (by omega)
  induction d with
  | zero =>
    intro w i ci h h0 h1 hd hl hD hc
    refine ⟨w, ci, h, Ev.step (fun k => spec_l25Right.l0.eq_2 first i b ci h c r w k) (ev_ite_neg (by rw [hwn]; omega) (Ev.now _)), by omega, hD, hc⟩
  | succ d ih =>
    intro w i ci h h0 h1 hd hl hD hc
    have hw : wrap64 (i + 1) = i + 1 := w64 (by omega) (by omega)
    have none_ : ∀ ci h, Cur b ci → ∃ w' ci' h', Ev (fun k => spec_l25Right.l0 k first (i + 1) b ci h c r (w ++ [(-1)])) (c, r, w', ci', h') ∧ (w'.length : Int) = n ∧ Drawn6 first w' ∧ Cur b ci' := fun ci h hc =>
      ih (w ++ [(-1)]) (i + 1) ci h (by omega) (by omega) (by omega) (by simp; omega) (drawn6_snoc first w hD (-1) (Or.inl rfl)) hc
    by_cases h6 : i < 6
    · obtain ⟨x, i', h', g, g2⟩ := once_ev b ci h 5 hc (by omega) (by omega)
      cases x with
      | true =>
        obtain ⟨w', ci', hh, e1, e2⟩ := none_ i' h' g2
        refine ⟨w', ci', hh, Ev.step (fun k => spec_l25Right.l0.eq_2 first i b ci h c r w k) (ev_ite_pos (by rw [hwn]; omega) (ev_ite_pos h6 (ev_bind_some g (ev_ite_pos rfl (ev_ite_pos (by omega) ?_))))), e2⟩
        rw [hw]; exact e1
      | false =>
        have ht : Int.tmod (wrap64 (first + i)) 6 = (first + i) % 6 := by rw [w64 (by omega) (by omega)]; exact Int.tmod_eq_emod_of_nonneg (by omega)
        obtain ⟨w', ci', hh, e1, e2⟩ := ih (w ++ [(first + i) % 6]) (i + 1) i' h' (by omega) (by omega) (by omega) (by simp; omega) (drawn6_snoc first w hD _ (Or.inr ⟨by omega, by rw [hl]⟩)) g2
        refine ⟨w', ci', hh, Ev.step (fun k => spec_l25Right.l0.eq_2 first i b ci h c r w k) (ev_ite_pos (by rw [hwn]; omega) (ev_ite_pos h6 (ev_bind_some g (ev_ite_neg (fun h => Bool.noConfusion h) (ev_ite_pos (by omega) ?_))))), e2⟩
        rw [hw, ht]; exact e1
    · obtain ⟨w', ci', hh, e1, e2⟩ := none_ ci h hc
      refine ⟨w', ci', hh, Ev.step (fun k => spec_l25Right.l0.eq_2 first i b ci h c r w k) (ev_ite_pos (by rw [hwn]; omega) (ev_ite_neg h6 (ev_ite_pos (by omega) ?_))), e2⟩
      rw [hw]; exact e1
theorem small_sideOk (l : List Int) (h : SmallSides l) : sideOk l = true := by
  unfold sideOk
  rw [Bool.and_eq_true, decide_eq_true_eq, List.all_eq_true]
  refine ⟨⟨h.1.1, by have := h.1.2; omega⟩, fun x hx => ?_⟩
  unfold inR
  have := h.2 x hx
  simp only [decide_eq_true_eq]; omega
theorem small_sum (l : List Int) (h : ∀ x ∈ l, x = 1 ∨ x = 2) : (l.length : Int) ≤ l.sum ∧ l.sum ≤ 2 * (l.length : Int) := by
  induction l with
  | nil => simp
  | cons x xs ih =>
    have h1 := h x (by simp)
    have h2 := ih (fun y hy => h y (by simp [hy]))
    rw [List.sum_cons, List.length_cons]; omega
theorem small_level (c r : List Int) (hc : SmallSides c) (hr : SmallSides r) : levelFor c r ≠ 0 := by
  have s1 := small_sum c hc.2
  have s2 := small_sum r hr.2
  have l1 := hc.1
  have l2 := hr.1
  have p0 : 1 * 1 ≤ c.sum * r.sum := Int.mul_le_mul (by omega) (by omega) (by omega) (by omega)
  have p1 : c.sum * r.sum ≤ 6 * 6 := Int.mul_le_mul (by omega) (by omega) (by omega) (by omega)
  have hq : seqOk 2 3 c r = true := by
    unfold seqOk squares levelSquares
    rw [small_sideOk c hc, small_sideOk r hr, Bool.and_true, if_pos rfl, if_neg (by decide), if_pos rfl, Bool.and_eq_true, decide_eq_true_eq, decide_eq_true_eq]
    omega
  unfold levelFor
  by_cases h1 : seqOk 1 3 c r = true
  · rw [if_pos h1]; decide
  · rw [if_neg h1, if_pos hq]; decide
theorem drawn_who (first : Int) (w : List Int) (hf : 0 ≤ first) (h : Drawn6 first w) : WhoOk w := by
  intro i h0 h1
  have hi := h i h0 h1
  refine ⟨by omega, fun j j0 j1 hpos he => ?_⟩
  have hj := h j j0 (by omega)
  omega
/-- What is drawn is a right layout. -/
theorem right_ev (b : List Int) (ci h : Int) (hc : Cur b ci) : ∃ c r w ci' h', Ev (fun k => spec_l25Right.f k b ci h) (c, r, w, ci', h') ∧ Cur b ci' ∧ SmallSides c ∧ SmallSides r ∧ LayP c r w ∧ w.length ≤ 9 := by
  obtain ⟨c, i1, h1, a1, a2, a3⟩ := sides_ev b ci h hc
  obtain ⟨r, i2, h2, b1, b2, b3⟩ := sides_ev b i1 h1 a3
  obtain ⟨x, i3, h3, c1, c2⟩ := once_ev b i2 h2 2 b3 (by omega) (by omega)
  have key : ∀ r', SmallSides r' → ∃ w ci' h', Ev (fun k => spec_l25Right.j0 k b i3 h3 c r') (c, r', w, ci', h') ∧ Cur b ci' ∧ LayP c r' w ∧ w.length ≤ 9 := by
    intro r' hr'
    obtain ⟨f, i4, h4, d1, d2, d3, d4⟩ := below_ev b i3 h3 6 c2 (by omega) (by omega)
    have l1 := a2.1
    have l2 := hr'.1
    have hn : (c.length : Int) * (r'.length : Int) ≤ 3 * 3 := Int.mul_le_mul (by omega) (by omega) (by omega) (by omega)
    have hn0 : 0 ≤ (c.length : Int) * (r'.length : Int) := Int.mul_nonneg (by omega) (by omega)
    obtain ⟨w, i5, h5, e1, e2, e3, e4⟩ := right_loop b c r' f ⟨d2, d3⟩ _ rfl (by omega) ((c.length : Int) * (r'.length : Int)).toNat [] 0 i4 h4 (by omega) hn0 (by omega) rfl (by intro j j0 j1; simp at j1; omega) d4
    exact ⟨w, i5, h5, Ev.step (fun k => spec_l25Right.j0.eq_2 b i3 h3 c r' k) (ev_bind_some d1 e1), e4, ⟨small_level c r' a2 hr', e2, drawn_who f w d2 e3⟩, by omega⟩
  cases x with
  | true =>
    obtain ⟨w, i5, h5, e1, e2, e3, e4⟩ := key [1] ⟨by simp, by simp⟩
    exact ⟨c, [1], w, i5, h5, Ev.bind a1 (Ev.bind b1 (ev_bind_some c1 (ev_ite_pos rfl e1))), e2, a2, ⟨by simp, by simp⟩, e3, e4⟩
  | false =>
    obtain ⟨w, i5, h5, e1, e2, e3, e4⟩ := key r b2
    exact ⟨c, r, w, i5, h5, Ev.bind a1 (Ev.bind b1 (ev_bind_some c1 (ev_ite_neg (fun h => Bool.noConfusion h) e1))), e2, a2, b2, e3, e4⟩
/-! ### a right layout comes back from its text -/
theorem sideOk_mem (l : List Int) (h : sideOk l = true) : ∀ x ∈ l, 1 ≤ x ∧ x ≤ 8 := by
  intro x hx
  simp only [sideOk, Bool.and_eq_true, List.all_eq_true] at h
  have := h.2 x hx
  simpa [inR] using this
theorem sideOk_len (l : List Int) (h : sideOk l = true) : 1 ≤ l.length ∧ l.length ≤ 4 := by
  simp only [sideOk, Bool.and_eq_true, decide_eq_true_eq] at h
  exact h.1
theorem who_mem (w : List Int) (h : WhoOk w) : ∀ x ∈ w, -1 ≤ x ∧ x ≤ 5 := by
  intro x hx
  obtain ⟨j, hj, rfl⟩ := List.getElem_of_mem hx
  have := (h (j : Int) (by omega) (by omega)).1
  have e : rd w (j : Int) = w[j] := by unfold rd; rw [List.getD_eq_getElem?_getD, Int.toNat_natCast, List.getElem?_eq_getElem hj]; rfl
  rw [e] at this; exact this
theorem texts_no47 (xs : List Int) (qs : List (List Int)) (h : TextsOf xs qs) : ∀ c ∈ joinB 44 qs, c ≠ 47 := by
  intro c hc
  rcases joinB_mem 44 qs c hc with rfl | ⟨p, hp, hcp⟩
  · decide
  · obtain ⟨j, hj, rfl⟩ := List.getElem_of_mem hp
    exact ((h.2 j (by have := h.1; omega) hj).1 c hcp).2
theorem layout_round (c r w : List Int) (h : LayP c r w) : ∃ t, Ev (fun k => impl_LayoutText.f k c r w) (t, true) ∧ Ev (fun k => impl_ReadLayout.f k t) (c, r, w, true) := by
  obtain ⟨hs1, hs2⟩ := levelFor_side c r h.1
  have l1 := sideOk_len c hs1
  have l2 := sideOk_len r hs2
  have hwl : 1 * 1 ≤ (c.length : Int) * (r.length : Int) ∧ (c.length : Int) * (r.length : Int) ≤ 4 * 4 := ⟨Int.mul_le_mul (by omega) (by omega) (by omega) (by omega), Int.mul_le_mul (by omega) (by omega) (by omega) (by omega)⟩
  have hw : (w.length : Int) ≤ 16 ∧ 1 ≤ (w.length : Int) := by rw [h.2.1]; omega
  have m1 := sideOk_mem c hs1
  have m2 := sideOk_mem r hs2
  have m3 := who_mem w h.2.2
  obtain ⟨t1, q1, a1, a2, a3, a4⟩ := commas_text c (by omega) (fun x hx => by have := m1 x hx; omega)
  obtain ⟨t2, q2, b1, b2, b3, b4⟩ := commas_text r (by omega) (fun x hx => by have := m2 x hx; omega)
  obtain ⟨t3, q3, d1, d2, d3, d4⟩ := commas_text w (by omega) (fun x hx => by have := m3 x hx; omega)
  have c1 : (⟨#[47]⟩ : ByteArray).size = 1 := rfl
  have b47 : bytesOf (⟨#[47]⟩ : ByteArray) = [47] := rfl
  have z1 : (t1 ++ (⟨#[47]⟩ : ByteArray)).size = t1.size + 1 := by rw [ByteArray.size_append, c1]
  have z2 : ((t1 ++ (⟨#[47]⟩ : ByteArray)) ++ t2).size = t1.size + 1 + t2.size := by rw [ByteArray.size_append, z1]
  have z3 : (((t1 ++ (⟨#[47]⟩ : ByteArray)) ++ t2) ++ (⟨#[47]⟩ : ByteArray)).size = t1.size + 1 + t2.size + 1 := by rw [ByteArray.size_append, z2, c1]
  have z4 : ((((t1 ++ (⟨#[47]⟩ : ByteArray)) ++ t2) ++ (⟨#[47]⟩ : ByteArray)) ++ t3).size = t1.size + 1 + t2.size + 1 + t3.size := by rw [ByteArray.size_append, z3]
  have ok := layoutOk_true c r w (by omega) (by omega) (by omega) h
  have ht : Ev (fun k => impl_LayoutText.f k c r w) ((((t1 ++ (⟨#[47]⟩ : ByteArray)) ++ t2) ++ (⟨#[47]⟩ : ByteArray)) ++ t3, true) :=
    Ev.bind ok (ev_ite_pos rfl (Ev.bind a1 (ev_ite_pos (by omega) (Ev.bind b1 (ev_ite_pos (by rw [z1]; omega) (ev_ite_pos (by rw [z2]; omega) (Ev.bind d1 (ev_ite_pos (by rw [z3]; omega) (Ev.now _)))))))))
  refine ⟨_, ht, ?_⟩
  have hb : bytesOf ((((t1 ++ (⟨#[47]⟩ : ByteArray)) ++ t2) ++ (⟨#[47]⟩ : ByteArray)) ++ t3) = joinB 47 [joinB 44 q1, joinB 44 q2, joinB 44 q3] := by
    rw [bo_append, bo_append, bo_append, bo_append, b47, a2, b2, d2]; simp [joinB]
  obtain ⟨rs, g1, g2⟩ := cut_text _ (by rw [z4]; omega) 47 [joinB 44 q1, joinB 44 q2, joinB 44 q3] (by simp) hb (by
    intro p hp x hx
    simp only [List.mem_cons, List.mem_nil_iff, or_false] at hp
    rcases hp with rfl | rfl | rfl
    · exact texts_no47 c q1 a3 x hx
    · exact texts_no47 r q2 b3 x hx
    · exact texts_no47 w q3 d3 x hx) (by simp)
  have hl : rs.length = 3 := by have := congrArg List.length g2; simpa using this
  obtain ⟨s1, s2, s3, rfl⟩ : ∃ s1 s2 s3, rs = [s1, s2, s3] := by
    match rs, hl with
    | [x, y, z], _ => exact ⟨x, y, z, rfl⟩
  simp only [List.map_cons, List.map_nil, List.cons.injEq, and_true] at g2
  obtain ⟨e1, e2, e3⟩ := g2
  have y1 : s1 = t1 := bo_inj (e1.trans a2.symm)
  have y2 : s2 = t2 := bo_inj (e2.trans b2.symm)
  have y3 : s3 = t3 := bo_inj (e3.trans d2.symm)
  subst y1 y2 y3
  have u1 := uncommas_text c (by omega) (by intro h; rw [h] at l1; simp at l1) (fun x hx => by have := m1 x hx; omega) s1 q1 a2 a3 (by omega)
  have u2 := uncommas_text r (by omega) (by intro h; rw [h] at l2; simp at l2) (fun x hx => by have := m2 x hx; omega) s2 q2 b2 b3 (by omega)
  have u3 := uncommas_text w (by omega) (by intro h; rw [h] at hw; simp at hw) (fun x hx => by have := m3 x hx; omega) s3 q3 d2 d3 (by omega)
  exact Ev.bind g1 (ev_ite_pos rfl (ev_ite_pos (by simp) (Ev.bind u1 (ev_ite_pos (by simp) (Ev.bind u2 (ev_ite_pos (by simp) (Ev.bind u3 (Ev.bind ht (ev_ite_pos rfl (ev_ite_pos rfl (Ev.now _)))))))))))
theorem sameints_loop (xs : List Int) (hx : xs.length ≤ 1099511627776) (d : Nat) : ∀ i : Int, 0 ≤ i → i ≤ (xs.length : Int) → (xs.length : Int) - i = d → Ev (fun k => laws_sameInts.l0 k xs xs i) true := by
  induction d with
  | zero => intro i h0 h1 hd; exact Ev.step (fun k => laws_sameInts.l0.eq_2 xs xs i k) (ev_ite_neg (by omega) (Ev.now _))
  | succ d ih =>
    intro i h0 h1 hd
    have hlt : i < (xs.length : Int) := by omega
    refine Ev.step (fun k => laws_sameInts.l0.eq_2 xs xs i k) (ev_ite_pos hlt (ev_ite_pos h0 (ev_ite_pos hlt (ev_ite_pos rfl ?_))))
    rw [w64 (by omega) (by omega)]; exact ih (i + 1) (by omega) (by omega) (by omega)
theorem sameints_self (xs : List Int) (hx : xs.length ≤ 1099511627776) : Ev (fun k => laws_sameInts.f k xs xs) true := Ev.congr (fun k => if_pos rfl) (sameints_loop xs hx xs.length 0 (by omega) (by omega) (by omega))
theorem samelayout_self (c r w : List Int) (hc : c.length ≤ 1099511627776) (hr : r.length ≤ 1099511627776) (hw : w.length ≤ 1099511627776) : Ev (fun k => laws_sameLayout.f k c r w c r w) true :=
  Ev.bind (sameints_self c hc) (ev_ite_pos rfl (Ev.bind (sameints_self r hr) (ev_ite_pos rfl (Ev.bind (sameints_self w hw) (Ev.now _)))))
theorem kept_tail (c r w c' r' w' : List Int) (hc : c.length ≤ 100) (hr : r.length ≤ 100) (hw : w.length ≤ 100) (hl : LayP c r w) (hc' : c'.length ≤ 100) (hr' : r'.length ≤ 100) (hw' : w'.length ≤ 100) (hl' : LayP c' r' w') (d : Nat) : ∀ i : Int, 0 ≤ i → i ≤ 6 → 6 - i = d →
    ∃ tail : List Int, (∀ out : List Int, out.length ≤ i.toNat → Ev (fun k => impl_Kept.l0 k out i c r w c' r' w') (out ++ tail)) ∧ (∀ pre : List Int, pre.length ≤ i.toNat → Ev (fun k => laws_FnLayouts.l1 k (pre ++ tail) (pre.length : Int) i c r w c' r' w') true) ∧ tail.length ≤ d := by
  induction d with
  | zero =>
    intro i h0 h1 hd
    refine ⟨[], fun out ho => ?_, fun pre hp => ?_, by simp⟩
    · rw [List.append_nil]; exact Ev.step (fun k => impl_Kept.l0.eq_2 out i c r w c' r' w' k) (ev_ite_neg (by omega) (Ev.now _))
    · refine Ev.step (fun k => laws_FnLayouts.l1.eq_2 (pre ++ []) _ i c r w c' r' w' k) (ev_ite_neg (by omega) ?_)
      rw [List.append_nil, beq_self_eq_true]; exact Ev.now _
  | succ d ih =>
    intro i h0 h1 hd
    have hw1 : wrap64 (i + 1) = i + 1 := w64 (by omega) (by omega)
    obtain ⟨a, ga⟩ := cell_some c r w (by omega) (by omega) (by omega) hl i h0
    obtain ⟨b, gb⟩ := cell_some c' r' w' (by omega) (by omega) (by omega) hl' i h0
    obtain ⟨tail, k1, k2, k3⟩ := ih (i + 1) (by omega) (by omega) (by omega)
    have skip : ∀ pre : List Int, pre.length ≤ i.toNat → Ev (fun k => laws_FnLayouts.j3 k (pre ++ tail) (pre.length : Int) i false c r w c' r' w') true := by
      intro pre hp
      refine Ev.step (fun k => laws_FnLayouts.j3.eq_2 (pre ++ tail) _ i false c r w c' r' w' k) (ev_ite_neg (by decide) ?_)
      rw [hw1]; exact k2 pre (by omega)
    by_cases ha : a ≥ 0
    · by_cases hb : b ≥ 0
      · refine ⟨i :: tail, fun out ho => ?_, fun pre hp => ?_, by simp; omega⟩
        · refine Ev.step (fun k => impl_Kept.l0.eq_2 out i c r w c' r' w' k) (ev_ite_pos (by omega) (Ev.bind ga (ev_ite_pos ha (Ev.bind gb (ev_ite_pos hb (ev_ite_pos (by omega) ?_))))))
          rw [hw1]
          have := k1 (out ++ [i]) (by simp; omega)
          rwa [List.append_assoc, List.singleton_append] at this
        · refine Ev.step (fun k => laws_FnLayouts.l1.eq_2 (pre ++ i :: tail) _ i c r w c' r' w' k) (ev_ite_pos (by omega) (Ev.bind ga (ev_ite_pos ha (Ev.bind gb ?_))))
          rw [decide_eq_true hb]
          have e : rd (pre ++ i :: tail) (pre.length : Int) = i := by unfold rd; rw [List.getD_eq_getElem?_getD, Int.toNat_natCast, List.getElem?_append_right (Nat.le_refl _), Nat.sub_self]; rfl
          refine Ev.step (fun k => laws_FnLayouts.j3.eq_2 (pre ++ i :: tail) _ i true c r w c' r' w' k) (ev_ite_pos rfl (ev_ite_neg (by simp; omega) (ev_ite_pos (by omega) (ev_ite_pos (by simp; omega) (ev_ite_pos e ?_)))))
          rw [hw1, w64 (x := (pre.length : Int) + 1) (by omega) (by omega)]
          have := k2 (pre ++ [i]) (by simp; omega)
          rw [List.append_assoc, List.singleton_append, List.length_append, List.length_singleton] at this
          exact_mod_cast this
      · refine ⟨tail, fun out ho => ?_, fun pre hp => ?_, by omega⟩
        · refine Ev.step (fun k => impl_Kept.l0.eq_2 out i c r w c' r' w' k) (ev_ite_pos (by omega) (Ev.bind ga (ev_ite_pos ha (Ev.bind gb (ev_ite_neg hb ?_)))))
          rw [hw1]; exact k1 out (by omega)
        · refine Ev.step (fun k => laws_FnLayouts.l1.eq_2 (pre ++ tail) _ i c r w c' r' w' k) (ev_ite_pos (by omega) (Ev.bind ga (ev_ite_pos ha (Ev.bind gb ?_))))
          rw [decide_eq_false hb]; exact skip pre hp
    · refine ⟨tail, fun out ho => ?_, fun pre hp => ?_, by omega⟩
      · refine Ev.step (fun k => impl_Kept.l0.eq_2 out i c r w c' r' w' k) (ev_ite_pos (by omega) (Ev.bind ga (ev_ite_neg ha ?_)))
        rw [hw1]; exact k1 out (by omega)
      · exact Ev.step (fun k => laws_FnLayouts.l1.eq_2 (pre ++ tail) _ i c r w c' r' w' k) (ev_ite_pos (by omega) (Ev.bind ga (ev_ite_neg ha (skip pre hp))))
theorem tiles_loop (kept c r w c' r' w' : List Int) (hc : c.length ≤ 100) (hr : r.length ≤ 100) (hw : w.length ≤ 100) (hl : LayP c r w) (hg : Ev (fun k => laws_FnLayouts.l1 k kept 0 0 c r w c' r' w') true) (d : Nat) : ∀ i : Int, 0 ≤ i → i ≤ (w.length : Int) → (w.length : Int) - i = d →
    Ev (fun k => laws_FnLayouts.l0 k kept i c r w c' r' w' c r w) true := by
  induction d with
  | zero => intro i h0 h1 hd; exact Ev.step (fun k => laws_FnLayouts.l0.eq_2 kept i c r w c' r' w' c r w k) (ev_ite_neg (by omega) hg)
  | succ d ih =>
    intro i h0 h1 hd
    have hn := ih (i + 1) (by omega) (by omega) (by omega)
    have hw1 : wrap64 (i + 1) = i + 1 := w64 (by omega) (by omega)
    refine Ev.step (fun k => laws_FnLayouts.l0.eq_2 kept i c r w c' r' w' c r w k) (ev_ite_pos (by omega) (ev_ite_pos h0 ?_))
    rw [hw1]
    by_cases hp : rd w i ≥ 0
    · exact ev_ite_pos hp (Ev.bind (cell_at c r w (by omega) (by omega) (by omega) hl i h0 (by omega) hp) (ev_ite_pos rfl hn))
    · exact ev_ite_neg hp hn
theorem seq_of_level (c r : List Int) (h : levelFor c r ≠ 0) : seqOk (levelFor c r) 4 c r = true := by
  have key : ∀ lv, seqOk lv 3 c r = true → seqOk lv 4 c r = true := by
    intro lv h
    unfold seqOk at h ⊢
    simp only [Bool.and_eq_true, decide_eq_true_eq] at h ⊢
    exact ⟨h.1, by omega⟩
  unfold levelFor at h ⊢
  by_cases h1 : seqOk 1 3 c r = true
  · rw [if_pos h1]; exact key _ h1
  · rw [if_neg h1] at h ⊢
    by_cases h2 : seqOk 2 3 c r = true
    · rw [if_pos h2]; exact key _ h2
    · rw [if_neg h2] at h ⊢
      by_cases h3 : seqOk 3 3 c r = true
      · rw [if_pos h3]; exact key _ h3
      · rw [if_neg h3] at h; exact absurd rfl h
theorem FnLayouts : laws_FnLayouts.Pure := by
  intro code hlen hlen2 hwf
  apply Ev.rounds
  refine ev_bind_some (a := decide ((code.length : Int) > 1048576)) rfl ?_
  by_cases hbig : (code.length : Int) > 1048576
  · rw [decide_eq_true hbig]; exact ev_ite_pos rfl (Ev.now _)
  rw [decide_eq_false hbig]
  refine ev_ite_neg (by decide) ?_
  obtain ⟨h0, n0⟩ := new_ev code (by omega)
  obtain ⟨c, r, w, i1, h1, r1, r2, r3, r4, r5, r6⟩ := right_ev code 0 h0 ⟨by omega, by omega, by omega⟩
  obtain ⟨c', r', w', i2, h2, s1, s2, s3, s4, s5, s6⟩ := right_ev code i1 h1 r2
  have hd : Ev (fun k => spec_DrawLayouts.f k code) (c, r, w, c', r', w') := Ev.bind n0 (Ev.bind r1 (Ev.bind s1 (Ev.now _)))
  obtain ⟨t, t1, t2⟩ := layout_round c r w r5
  have b1 := r3.1
  have b2 := r4.1
  have b3 := s3.1
  have b4 := s4.1
  have ok := layoutOk_true c r w (by omega) (by omega) (by omega) r5
  have lf := levelFor_impl c r (by omega) (by omega)
  have cp : ∀ l : List Int, l.length ≤ 100 → impl_copyInts.f l = some l := by
    intro l hl
    show (some (([] : List Int) : List Int)).bind _ = _
    rw [Option.bind_some]
    have : ([] : List Int).length + l.length < 17592186044416 := by simp; omega
    rw [if_pos this]; rfl
  have hq : Ev (fun k => impl_LayoutSeq.f k c r w 4) (levelFor c r, 4, c, r, true) := by
    refine Ev.bind ok (ev_ite_pos rfl (ev_bind_some (within_eq 4 3 8) ?_))
    exact Ev.step (fun k => impl_LayoutSeq.j0.eq_2 4 false c r w k) (ev_ite_neg (by decide) (Ev.bind lf (ev_bind_some (cp c (by omega)) (ev_bind_some (cp r (by omega)) (Ev.now _)))))
  obtain ⟨tail, k1, k2, k3⟩ := kept_tail c r w c' r' w' (by omega) (by omega) (by omega) r5 (by omega) (by omega) (by omega) s5 6 0 (by omega) (by omega) (by omega)
  have hk : Ev (fun k => impl_Kept.f k c r w c' r' w') tail := k1 [] (by simp)
  have hlaw : Ev (fun k => laws_FnLayouts.l1 k tail 0 0 c r w c' r' w') true := k2 [] (by simp)
  have sq : Ev (fun k => impl_SeqOk.f k (levelFor c r) 4 c r) true := by
    have := seqOk_impl (levelFor c r) 4 c r (by omega) (by omega)
    rwa [seq_of_level c r r5.1] at this
  have hm : (c.length : Int) * (r.length : Int) ≤ 3 * 3 := Int.mul_le_mul (by omega) (by omega) (by omega) (by omega)
  have hm0 : 0 ≤ (c.length : Int) * (r.length : Int) := Int.mul_nonneg (by omega) (by omega)
  have tl : Ev (fun k => impl_TilesOf.f k (levelFor c r) 4 c r) (w.length : Int) := by
    refine Ev.bind sq (ev_ite_pos rfl ?_)
    rw [w64 (by omega) (by omega), ← r5.2.1]; exact Ev.now _
  refine Ev.bind hd (Ev.bind hd (Ev.bind t1 (Ev.bind t2 (Ev.bind hq (Ev.bind hk (ev_ite_pos rfl (ev_ite_pos rfl (ev_ite_pos rfl (Ev.bind (samelayout_self c r w (by omega) (by omega) (by omega)) (ev_ite_pos rfl (Ev.bind sq (ev_ite_pos rfl (Ev.bind tl ?_)))))))))))))
  have hb : ((w.length : Int) != (w.length : Int)) = false := by simp
  simp only
  rw [hb]
  exact Ev.step (fun k => laws_FnLayouts.j0.eq_2 tail false c r w c' r' w' c r w k) (ev_ite_neg (by decide) (tiles_loop tail c r w c' r' w' (by omega) (by omega) (by omega) r5 hlaw w.length 0 (by omega) (by omega) (by omega)))
end Go.Proofs.Ytjmhhgnknjfnlaa.Pure
