/- Drawn events come back from their texts, with blanks around them, and a script of them has them all, at its lines; a line that is no event's text is found. At every row of drawn bytes; no condition beyond the statement's own. -/
import Derived.Test.YtjmhhgnknjfnlaaZFnEventsToldy0
import Derived.Test.YtjmhhgnknjfnlaaZFnEventsToldy1
import Derived.Test.YtjmhhgnknjfnlaaZFnEventsToldy2
import Derived.Test.YtjmhhgnknjfnlaaZFnEventsToldy3
import Derived.Test.YtjmhhgnknjfnlaaZFnEventsToldy4
namespace Go.Proofs.Ytjmhhgnknjfnlaa.Pure
open Go.RowKit Go.Proofs.Ytjmhhgnknjfnlaa.PFnEventsTold Go.Proofs.YtjmhhgnknjfnlaaW.PrintWords Go.Proofs.YtjmhhgnknjfnlaaW.PrintLast
set_option linter.unusedVariables false
set_option linter.unusedSimpArgs false
theorem w64 {x : Int} (h : -9223372036854775808 ≤ x) (h' : x ≤ 9223372036854775807) : wrap64 x = x := by unfold wrap64; omega
theorem ev_ite_pos {α : Type} {c : Prop} [Decidable c] {g f : Nat → Option α} {r : α} (h : c) (k : Ev g r) : Ev (fun n => if c then g n else f n) r := by simpa only [if_pos h] using k
theorem ev_ite_neg {α : Type} {c : Prop} [Decidable c] {g f : Nat → Option α} {r : α} (h : ¬ c) (k : Ev f r) : Ev (fun n => if c then g n else f n) r := by simpa only [if_neg h] using k
theorem ev_now' {α : Type} {g : Nat → Option α} {r : α} (h : ∀ k, g k = some r) : Ev g r := ⟨0, fun k _ => h k⟩
theorem ev_bind_some {α β : Type} {x : Option α} {a : α} {f : Nat → α → Option β} {r : β} (h : x = some a) (k : Ev (fun n => f n a) r) : Ev (fun n => x.bind (f n)) r := by subst h; simpa only [Option.bind_some] using k
theorem bt_bounds (s : ByteArray) (i : Int) : 0 ≤ bt s i ∧ bt s i ≤ 255 := bt_range s i
theorem size_ext (s : ByteArray) (a b : Nat) (h : a ≤ b) (hb : b ≤ s.size) : (s.extract a b).size = b - a := by rw [ByteArray.size_extract]; omega
theorem within_eq (a b c : Int) : impl_within.f a b c = some (decide (b ≤ a ∧ a ≤ c)) := by
  unfold impl_within.f
  by_cases h : a ≥ b
  · rw [if_pos h]; simp [show b ≤ a from h]
  · rw [if_neg h]; simp [show ¬ b ≤ a from h]
/-! ### drawn numbers -/
theorem and255 (x : Int) : 0 ≤ Go.bits .and .i64 x 255 ∧ Go.bits .and .i64 x 255 ≤ 255 := by
  have h : ((BitVec.ofInt 64 x).toNat &&& 255) ≤ 255 := Nat.and_le_right
  have e : Go.bits .and .i64 x 255 = IntKind.i64.wrap (((BitVec.ofInt 64 x).toNat &&& 255 : Nat) : Int) := by
    unfold Go.bits
    simp only [BitVec.toNat_and]
    rfl
  rw [e, IntKind.wrap_i64]; omega
/-- A cursor whose place is right. -/
def Cur (b : List Int) (i : Int) : Prop := b.length ≤ 1048576 ∧ 0 ≤ i ∧ i ≤ (b.length : Int)
theorem byte_ev (b : List Int) (i h : Int) (hc : Cur b i) : ∃ x i' h', spec_l01Byte.f b i h = some (x, i', h') ∧ 0 ≤ x ∧ x ≤ 255 ∧ Cur b i' := by
  obtain ⟨h1, h2, h3⟩ := hc
  unfold spec_l01Byte.f
  by_cases hl : i < (b.length : Int)
  · rw [if_pos hl, if_pos h2, w64 (x := i + 1) (by omega) (by omega)]
    have := and255 (wrap64 (Go.bits .and .i64 (Go.bits .xor .i64 (wrap64 (wrap64 (h * 6364136223846793005) + 1442695040888963407) / 8589934592) (wrap64 (wrap64 (h * 6364136223846793005) + 1442695040888963407) / 35184372088832)) 255 + wrap64 (rd b i)))
    exact ⟨_, _, _, rfl, this.1, this.2, h1, by omega, by omega⟩
  · rw [if_neg hl]
    have := and255 (Go.bits .xor .i64 (wrap64 (wrap64 (h * 6364136223846793005) + 1442695040888963407) / 8589934592) (wrap64 (wrap64 (h * 6364136223846793005) + 1442695040888963407) / 35184372088832))
    exact ⟨_, _, _, rfl, this.1, this.2, h1, h2, h3⟩
/-- A number below n (at most 256). -/
theorem below_ev (b : List Int) (i h n : Int) (hc : Cur b i) (h1 : 1 ≤ n) (h2 : n ≤ 256) : ∃ x i' h', spec_l01Below.f b i h n = some (x, i', h') ∧ 0 ≤ x ∧ x < n ∧ Cur b i' := by
  obtain ⟨x, i', h', g, g0, g1, g2⟩ := byte_ev b i h hc
  refine ⟨Int.tmod x n, i', h', ?_, ?_, ?_, g2⟩
  · unfold spec_l01Below.f
    rw [if_neg (by omega), if_pos h2, g, Option.bind_some, if_neg (by omega)]
  · rw [Int.tmod_eq_emod_of_nonneg g0]; exact Int.emod_nonneg _ (by omega)
  · rw [Int.tmod_eq_emod_of_nonneg g0]; exact Int.emod_lt_of_pos _ (by omega)
theorem once_ev (b : List Int) (i h n : Int) (hc : Cur b i) (h1 : 1 ≤ n) (h2 : n ≤ 256) : ∃ x i' h', spec_l01Once.f b i h n = some (x, i', h') ∧ Cur b i' := by
  obtain ⟨x, i', h', g, _, _, g2⟩ := below_ev b i h n hc h1 h2
  exact ⟨_, _, _, by unfold spec_l01Once.f; rw [g, Option.bind_some], g2⟩
theorem new_loop (b : List Int) (hb : b.length ≤ 1048576) (d : Nat) : ∀ h i : Int, 0 ≤ i → i ≤ (b.length : Int) → (b.length : Int) - i = d → ∃ h', Ev (fun k => spec_l01New.l0 k b h i) (b, 0, h') := by
  induction d with
  | zero =>
    intro h i h0 h1 hd
    exact ⟨h, Ev.step (fun k => spec_l01New.l0.eq_2 b h i k) (ev_ite_neg (by omega) (Ev.now _))⟩
  | succ d ih =>
    intro h i h0 h1 hd
    by_cases hi : i < 4000
    · obtain ⟨h', g⟩ := ih (Go.bits .and .i64 (wrap64 (wrap64 (wrap64 (h * 131) + wrap64 (rd b i)) + 7)) 1073741823) (i + 1) (by omega) (by omega) (by omega)
      refine ⟨h', Ev.step (fun k => spec_l01New.l0.eq_2 b h i k) (ev_ite_pos (by omega) (ev_ite_pos hi (ev_ite_pos h0 ?_)))⟩
      rw [show wrap64 (i + 1) = i + 1 from w64 (by omega) (by omega)]
      exact g
    · exact ⟨h, Ev.step (fun k => spec_l01New.l0.eq_2 b h i k) (ev_ite_pos (by omega) (ev_ite_neg hi (Ev.now _)))⟩
theorem new_ev (b : List Int) (hb : b.length ≤ 1048576) : ∃ h', Ev (fun k => spec_l01New.f k b) (b, 0, h') := new_loop b hb b.length _ 0 (by omega) (by omega) (by omega)
theorem tmod_nn {x : Int} (h : 0 ≤ x) : Int.tmod x 10 = x % 10 := Int.tmod_eq_emod_of_nonneg h
theorem tdiv_nn {x : Int} (h : 0 ≤ x) : Int.tdiv x 10 = x / 10 := Int.tdiv_eq_ediv_of_nonneg h
theorem figure_at : ∀ d : Nat, d < 10 → (⟨#[48, 49, 50, 51, 52, 53, 54, 55, 56, 57, 97, 98, 99, 100, 101, 102]⟩ : ByteArray).extract d (d + 1) = strOfNums [(48 + (d : Int))] := by decide
theorem figure_same (m : Int) (h0 : 0 ≤ m) (h1 : m < 10) : (⟨#[48, 49, 50, 51, 52, 53, 54, 55, 56, 57, 97, 98, 99, 100, 101, 102]⟩ : ByteArray).extract (m : Int).toNat ((m + 1) : Int).toNat = strOfNums [(48 + m)] := by
  have h := figure_at m.toNat (by omega)
  rw [show ((m + 1) : Int).toNat = m.toNat + 1 by omega]
  rw [h]; congr 2; omega
/-! ### texts as lists of bytes -/
theorem bo_append (a b : ByteArray) : bytesOf (a ++ b) = bytesOf a ++ bytesOf b := by simp [bytesOf]
theorem bo_inj {a b : ByteArray} (h : bytesOf a = bytesOf b) : a = b := by
  have h2 : a.data.toList = b.data.toList := by
    unfold bytesOf at h
    exact (List.map_inj_right (fun x y hxy => UInt8.toNat_inj.1 (Int.ofNat.inj hxy))).1 h
  cases a; cases b; simp only at h2; rw [Array.toList_inj.1 h2]
theorem bo_extract (s : ByteArray) (i j : Nat) : bytesOf (s.extract i j) = ((bytesOf s).take j).drop i := by
  unfold bytesOf
  rw [ByteArray.data_extract, Array.toList_extract, List.extract_eq_take_drop, List.map_take, List.map_drop, List.take_drop]
  by_cases h : i ≤ j
  · rw [show i + (j - i) = j by omega]
  · rw [show i + (j - i) = i by omega, List.drop_eq_nil_of_le (by simp; omega), List.drop_eq_nil_of_le (by simp; omega)]
theorem bo_size (s : ByteArray) : (bytesOf s).length = s.size := bytesOf_length s
theorem bo_sons (xs : List Int) (h : ∀ x ∈ xs, 0 ≤ x ∧ x < 256) : bytesOf (strOfNums xs) = xs := by
  unfold bytesOf strOfNums
  simp only [List.map_map]
  conv => rhs; rw [← List.map_id xs]
  refine List.map_congr_left fun x hx => ?_
  have := h x hx
  simp only [Function.comp, id, UInt8.toNat_ofNat']
  omega
theorem toList_same {a b : ByteArray} : a.toList = b.toList ↔ a = b := by
  constructor
  · intro h
    rw [ByteArray.toList_eq, ByteArray.toList_eq] at h
    cases a; cases b; simp only at h; rw [Array.toList_inj.1 h]
  · intro h; rw [h]
theorem bt_bo (s : ByteArray) (i : Int) : bt s i = (bytesOf s).getD i.toNat 0 := (rd_bytesOf s i).symm
/-! ### figures -/
def horner (a : Int) (ds : List Int) : Int := ds.foldl (fun a c => 10 * a + (c - 48)) a
def Digits (ds : List Int) : Prop := ∀ c ∈ ds, 48 ≤ c ∧ c ≤ 57
theorem horner_ge (ds : List Int) (h : Digits ds) : ∀ a, 0 ≤ a → a ≤ horner a ds := by
  induction ds with
  | nil => intro a _; exact Int.le_refl _
  | cons c cs ih =>
    intro a ha
    have hc := h c (by simp)
    have := ih (fun x hx => h x (by simp [hx])) (10 * a + (c - 48)) (by omega)
    show a ≤ horner (10 * a + (c - 48)) cs
    omega
theorem figure_bo (m : Int) (h0 : 0 ≤ m) (h1 : m < 10) : bytesOf (strOfNums [(48 + m)]) = [48 + m] := bo_sons _ (by simp; omega)
theorem decimal_digits (n : Int) (hn : 0 ≤ n) (m : Nat) : ∀ (x : Int) (t : ByteArray), 0 ≤ x → x < 10 ^ m → m ≤ 18 → (t.size : Int) + m ≤ 1000000 →
    ∃ r ds, Ev (fun k => impl_Decimal.l0 k n t x) r ∧ bytesOf r = ds ++ bytesOf t ∧ Digits ds ∧ horner 0 ds = x ∧ ds.length ≤ m ∧ (0 < x → ds ≠ []) := by
  induction m with
  | zero =>
    intro x t h0 h1 hm hs
    obtain rfl : x = 0 := by simp at h1; omega
    refine ⟨t, [], ?_, by simp, by simp [Digits], rfl, by simp, by omega⟩
    exact Ev.step (fun k => impl_Decimal.l0.eq_2 n t 0 k) (ev_ite_pos rfl (ev_ite_neg (by omega) (Ev.now _)))
  | succ m ih =>
    intro x t h0 h1 hm hs
    by_cases hx : x = 0
    · subst hx
      refine ⟨t, [], ?_, by simp, by simp [Digits], rfl, by simp, by omega⟩
      exact Ev.step (fun k => impl_Decimal.l0.eq_2 n t 0 k) (ev_ite_pos rfl (ev_ite_neg (by omega) (Ev.now _)))
    · have hb : 0 ≤ x % 10 ∧ x % 10 < 10 := by omega
      have hp : (10 : Int) ^ (m + 1) = 10 * 10 ^ m := by rw [Int.pow_succ]; omega
      have hbig : (10 : Int) ^ (m + 1) ≤ 1000000000000000000 := by
        have h1 : 10 ^ (m + 1) ≤ 10 ^ 18 := Nat.pow_le_pow_right (by omega) (by omega)
        have h2 : (((10 ^ (m + 1) : Nat)) : Int) ≤ ((10 ^ 18 : Nat) : Int) := Int.ofNat_le.2 h1
        rw [Int.natCast_pow] at h2
        exact h2
      have hm1 : mx (Int.tmod x 10) (wrap64 (-(Int.tmod x 10))) = x % 10 := by
        rw [tmod_nn h0, w64 (by omega) (by omega)]; unfold mx; split <;> omega
      have hw1 : wrap64 (x % 10 + 1) = x % 10 + 1 := w64 (by omega) (by omega)
      have hw2 : wrap64 (Int.tdiv x 10) = x / 10 := by rw [tdiv_nn h0]; exact w64 (by omega) (by omega)
      have hfs : (strOfNums [(48 + x % 10)]).size = 1 := by rw [strOfNums_size]; rfl
      have hsz : (strOfNums [(48 + x % 10)] ++ t).size = 1 + t.size := by rw [ByteArray.size_append, hfs]
      obtain ⟨r, ds, g1, g2, g3, g4, g5, g6⟩ := ih (x / 10) (strOfNums [(48 + x % 10)] ++ t) (by omega) (by omega) (by omega) (by rw [hsz]; omega)
      refine ⟨r, ds ++ [48 + x % 10], ?_, ?_, ?_, ?_, by simp; omega, by simp⟩
      · refine Ev.step (fun k => impl_Decimal.l0.eq_2 n t x k) (ev_ite_neg hx ?_)
        rw [hm1, hw1, figure_same _ hb.1 hb.2, hw2]
        exact ev_ite_pos hb.1 (ev_ite_pos (by omega) (ev_ite_pos (by omega) (ev_ite_pos (by rw [hfs]; omega) g1)))
      · rw [g2, bo_append, figure_bo _ hb.1 hb.2]; simp
      · intro c hc
        rcases List.mem_append.1 hc with hc | hc
        · exact g3 c hc
        · rw [List.mem_singleton.1 hc]; omega
      · unfold horner at g4 ⊢
        rw [List.foldl_append, g4]; simp only [List.foldl_cons, List.foldl_nil]; omega
theorem decimal_text (n : Int) (h0 : 0 ≤ n) (h1 : n < 10000000000) : ∃ r, Ev (fun k => impl_Decimal.f k n) r ∧ Digits (bytesOf r) ∧ horner 0 (bytesOf r) = n ∧ (bytesOf r).length ≤ 10 ∧ 0 < (bytesOf r).length := by
  by_cases hz : n = 0
  · subst hz
    exact ⟨⟨#[48]⟩, ev_now' fun k => by unfold impl_Decimal.f; rw [if_pos rfl], by intro c hc; simp [bytesOf] at hc; omega, by simp [horner, bytesOf], by simp [bytesOf], by simp [bytesOf]⟩
  · obtain ⟨r, ds, g1, g2, g3, g4, g5, g6⟩ := decimal_digits n h0 10 n ⟨#[]⟩ h0 (by omega) (by omega) (by decide)
    have e : bytesOf r = ds := by rw [g2]; simp [bytesOf]
    refine ⟨r, Ev.congr (fun k => ?_) g1, by rw [e]; exact g3, by rw [e]; exact g4, by rw [e]; exact g5, ?_⟩
    · unfold impl_Decimal.f; rw [if_neg hz]
    · rw [e]; exact List.length_pos_iff.2 (g6 (by omega))
theorem getD_drop (l : List Int) (i : Nat) (c : Int) (cs : List Int) (h : l.drop i = c :: cs) : l.getD i 0 = c ∧ i < l.length ∧ l.drop (i + 1) = cs := by
  have hl : i < l.length := by
    by_cases hh : i < l.length
    · exact hh
    · rw [List.drop_eq_nil_of_le (by omega)] at h; exact absurd h (by simp)
  rw [List.drop_eq_getElem_cons hl] at h
  injection h with h1 h2
  exact ⟨by rw [List.getD_eq_getElem?_getD, List.getElem?_eq_getElem hl]; exact h1, hl, h2⟩
theorem readdec_loop (s : ByteArray) (n : Int) (hn : n ≤ 1000000000) (hlen : s.size ≤ 10) (hdec : Ev (fun k => impl_Decimal.f k n) s) (rest : List Int) : ∀ (a i : Int), 0 ≤ a → 0 ≤ i → (bytesOf s).drop i.toNat = rest → Digits rest → horner a rest = n →
    Ev (fun k => impl_ReadDecimal.l0 k s a i) (n, true) := by
  induction rest with
  | nil =>
    intro a i ha hi hd _ hh
    have hs : ¬ i < (s.size : Int) := by
      intro h
      have := List.drop_eq_nil_iff.1 hd
      rw [bo_size] at this; omega
    have e : a = n := hh
    subst e
    exact Ev.step (fun k => impl_ReadDecimal.l0.eq_2 s a i k) (ev_ite_neg hs (ev_ite_neg (by omega) (Ev.bind hdec (ev_ite_pos rfl (Ev.now _)))))
  | cons c cs ih =>
    intro a i ha hi hd hg hh
    obtain ⟨e1, e2, e3⟩ := getD_drop _ _ _ _ hd
    rw [bo_size] at e2
    have hc := hg c (by simp)
    have hb : bt s i = c := by rw [bt_bo]; exact e1
    have hge := horner_ge cs (fun x hx => hg x (by simp [hx])) (10 * a + (c - 48)) (by omega)
    have hh' : horner (10 * a + (c - 48)) cs = n := hh
    have e4 : wrap64 (10 * a) = 10 * a := w64 (by omega) (by omega)
    have e5 : (c - 48) % 256 = c - 48 := by omega
    have e6 : wrap64 (10 * a + (c - 48)) = 10 * a + (c - 48) := w64 (by omega) (by omega)
    have e7 : wrap64 (i + 1) = i + 1 := w64 (by omega) (by omega)
    refine Ev.step (fun k => impl_ReadDecimal.l0.eq_2 s a i k) (ev_ite_pos (by omega) (ev_ite_pos hi (ev_ite_neg (by omega) (ev_ite_neg (by omega) ?_))))
    rw [hb, e4, e5, e6, e7]
    exact ih _ (i + 1) (by omega) (by omega) (by rw [show (i + 1).toNat = i.toNat + 1 by omega]; exact e3) (fun x hx => hg x (by simp [hx])) hh'
/-- A number's text reads as the number. -/
theorem readdec_text (n : Int) (h0 : 0 ≤ n) (h1 : n ≤ 1000000000) : ∃ r, Ev (fun k => impl_Decimal.f k n) r ∧ Ev (fun k => impl_ReadDecimal.f k r) (n, true) ∧ Digits (bytesOf r) ∧ r.size ≤ 10 ∧ 0 < r.size := by
  obtain ⟨r, g1, g2, g3, g4, g5⟩ := decimal_text n h0 (by omega)
  rw [bo_size] at g4 g5
  refine ⟨r, g1, Ev.congr (fun k => ?_) (readdec_loop r n h1 g4 g1 (bytesOf r) 0 0 (by omega) (by omega) rfl g2 g3), g2, g4, g5⟩
  unfold impl_ReadDecimal.f
  rw [within_eq, Option.bind_some, if_pos (by simp; omega)]
/-! ### a text that is cut at a byte -/
def joinB (b : Int) : List (List Int) → List Int
  | [] => []
  | [p] => p
  | p :: q :: r => p ++ b :: joinB b (q :: r)
theorem cut_scan (s : ByteArray) (hs : s.size ≤ 1099511627776) (by_ : Int) (p tail : List Int) (out : List ByteArray) (fr : Int) (h0 : 0 ≤ fr) (hd : (bytesOf s).drop fr.toNat = p ++ tail) (hp : ∀ c ∈ p, c ≠ by_) (res : List ByteArray)
    (hend : Ev (fun k => impl_cut.l0 k s by_ out fr (fr + (p.length : Int))) res) (d : Nat) : ∀ i : Int, fr ≤ i → i ≤ fr + (p.length : Int) → fr + (p.length : Int) - i = d → Ev (fun k => impl_cut.l0 k s by_ out fr i) res := by
  induction d with
  | zero =>
    intro i h1 h2 h3
    rw [show i = fr + (p.length : Int) by omega]; exact hend
  | succ d ih =>
    intro i h1 h2 h3
    have hl := congrArg List.length hd
    rw [List.length_drop, bo_size, List.length_append] at hl
    have hw : wrap64 (i + 1) = i + 1 := w64 (by omega) (by omega)
    have hj : (i - fr).toNat < p.length := by omega
    have hb : bt s i = p[(i - fr).toNat] := by
      rw [bt_bo, List.getD_eq_getElem?_getD]
      have e : (bytesOf s)[i.toNat]? = ((bytesOf s).drop fr.toNat)[(i - fr).toNat]? := by rw [List.getElem?_drop]; congr 1; omega
      rw [e, hd, List.getElem?_append_left hj, List.getElem?_eq_getElem hj]; rfl
    have hne : ¬ bt s i = by_ := by rw [hb]; exact hp _ (List.getElem_mem _)
    refine Ev.step (fun k => impl_cut.l0.eq_2 s by_ out fr i k) (ev_ite_pos (by omega) (ev_ite_pos (by omega) (ev_ite_neg hne ?_)))
    rw [hw]; exact ih (i + 1) (by omega) (by omega) (by omega)
theorem cut_join (s : ByteArray) (hs : s.size ≤ 1099511627776) (by_ : Int) (ps : List (List Int)) : ∀ (out : List ByteArray) (fr : Int), 0 ≤ fr → fr ≤ (s.size : Int) → ps ≠ [] → (bytesOf s).drop fr.toNat = joinB by_ ps → (∀ p ∈ ps, ∀ c ∈ p, c ≠ by_) → out.length + ps.length ≤ 1000000 →
    ∃ rs, Ev (fun k => impl_cut.l0 k s by_ out fr fr) (out ++ rs) ∧ rs.map bytesOf = ps := by
  induction ps with
  | nil => intro out fr _ _ h; exact absurd rfl h
  | cons p r ih =>
    intro out fr h0 h1 _ hd hp hlim
    cases r with
    | nil =>
      have hd' : (bytesOf s).drop fr.toNat = p ++ [] := by rw [hd]; simp [joinB]
      have hl := congrArg List.length hd'
      rw [List.length_drop, bo_size, List.length_append] at hl
      simp only [List.length_nil] at hl
      refine ⟨[s.extract fr.toNat s.size], cut_scan s hs by_ p [] out fr h0 hd' (hp p (by simp)) _ ?_ p.length fr (by omega) (by omega) (by omega), ?_⟩
      · refine Ev.step (fun k => impl_cut.l0.eq_2 s by_ out fr _ k) (ev_ite_neg (by omega) (ev_ite_pos h0 (ev_ite_pos h1 (ev_ite_pos (by simp at hlim; omega) (Ev.now _)))))
      · simp only [List.map_cons, List.map_nil]
        rw [bo_extract, List.take_of_length_le (by rw [bo_size]; omega), hd', List.append_nil]
    | cons q r =>
      have hd' : (bytesOf s).drop fr.toNat = p ++ by_ :: joinB by_ (q :: r) := hd
      have hl := congrArg List.length hd'
      rw [List.length_drop, bo_size, List.length_append, List.length_cons] at hl
      have hnext : (bytesOf s).drop (fr + (p.length : Int)).toNat = by_ :: joinB by_ (q :: r) := by
        rw [show (fr + (p.length : Int)).toNat = fr.toNat + p.length by omega, ← List.drop_drop, hd', List.drop_left]
      obtain ⟨e1, e2, e3⟩ := getD_drop _ _ _ _ hnext
      rw [bo_size] at e2
      have hw : wrap64 (fr + (p.length : Int) + 1) = fr + (p.length : Int) + 1 := w64 (by omega) (by omega)
      obtain ⟨rs, g1, g2⟩ := ih (out ++ [s.extract fr.toNat (fr + (p.length : Int)).toNat]) (fr + (p.length : Int) + 1) (by omega) (by omega) (by simp) (by rw [show (fr + (p.length : Int) + 1).toNat = (fr + (p.length : Int)).toNat + 1 by omega]; exact e3) (fun x hx => hp x (by simp [hx])) (by simp at hlim ⊢; omega)
      refine ⟨s.extract fr.toNat (fr + (p.length : Int)).toNat :: rs, cut_scan s hs by_ p (by_ :: joinB by_ (q :: r)) out fr h0 hd' (hp p (by simp)) _ ?_ p.length fr (by omega) (by omega) (by omega), ?_⟩
      · refine Ev.step (fun k => impl_cut.l0.eq_2 s by_ out fr _ k) (ev_ite_pos (by omega) (ev_ite_pos (by omega) (ev_ite_pos (by rw [bt_bo]; exact e1) (ev_ite_pos h0 (ev_ite_pos (by omega) (ev_ite_pos (by omega) (ev_ite_pos (by simp at hlim; omega) ?_)))))))
        rw [hw]
        simpa using g1
      · simp only [List.map_cons, g2]
        congr 1
        rw [bo_extract, List.drop_take, hd', show (fr + (p.length : Int)).toNat - fr.toNat = p.length by omega, List.take_left]
/-- A text that is joined of parts without a byte is cut into these parts there. -/
theorem cut_text (s : ByteArray) (hs : s.size ≤ 1099511627776) (by_ : Int) (ps : List (List Int)) (hn : ps ≠ []) (hj : bytesOf s = joinB by_ ps) (hp : ∀ p ∈ ps, ∀ c ∈ p, c ≠ by_) (hlim : ps.length ≤ 1000000) :
    ∃ rs, Ev (fun k => impl_cut.f k s by_) rs ∧ rs.map bytesOf = ps := by
  obtain ⟨rs, g1, g2⟩ := cut_join s hs by_ ps [] 0 (by omega) (by omega) hn (by simpa using hj) hp (by simpa using hlim)
  rw [List.nil_append] at g1
  exact ⟨rs, g1, g2⟩
/-! ### a line of words -/
/-- A word: signs that are no blanks. -/
def Word (p : List Int) : Prop := p ≠ [] ∧ ∀ c ∈ p, 33 ≤ c ∧ c ≤ 126
theorem parts_scan (s : ByteArray) (hs : s.size ≤ 600) (p tail : List Int) (out : List ByteArray) (fr : Int) (h0 : 0 ≤ fr) (hd : (bytesOf s).drop fr.toNat = p ++ tail) (hp : ∀ c ∈ p, 33 ≤ c ∧ c ≤ 126) (res : List ByteArray × Bool)
    (hend : Ev (fun k => impl_PartsOf.l0 k s out fr (fr + (p.length : Int))) res) (d : Nat) : ∀ i : Int, fr < i → i ≤ fr + (p.length : Int) → fr + (p.length : Int) - i = d → Ev (fun k => impl_PartsOf.l0 k s out fr i) res := by
  induction d with
  | zero => intro i h1 h2 h3; rw [show i = fr + (p.length : Int) by omega]; exact hend
  | succ d ih =>
    intro i h1 h2 h3
    have hl := congrArg List.length hd
    rw [List.length_drop, bo_size, List.length_append] at hl
    have hw : wrap64 (i + 1) = i + 1 := w64 (by omega) (by omega)
    have hj : (i - fr).toNat < p.length := by omega
    have hb : bt s i = p[(i - fr).toNat] := by
      rw [bt_bo, List.getD_eq_getElem?_getD]
      have e : (bytesOf s)[i.toNat]? = ((bytesOf s).drop fr.toNat)[(i - fr).toNat]? := by rw [List.getElem?_drop]; congr 1; omega
      rw [e, hd, List.getElem?_append_left hj, List.getElem?_eq_getElem hj]; rfl
    have hc := hp _ (List.getElem_mem hj)
    rw [← hb] at hc
    have e1 : wrap64 (bt s i) = bt s i := w64 (by omega) (by omega)
    have e2 : (bt s i == 32) = false := beq_eq_false_iff_ne.2 (by omega)
    refine Ev.step (fun k => impl_PartsOf.l0.eq_2 s out fr i k) (ev_ite_pos (by omega) (ev_ite_pos (by omega) (ev_ite_pos (by omega) (ev_bind_some (within_eq _ _ _) ?_))))
    rw [e1, decide_eq_true (show 32 ≤ bt s i ∧ bt s i ≤ 126 by omega)]
    refine Ev.step (fun k => impl_PartsOf.j1.eq_2 s out fr i false k) (ev_ite_neg (by decide) (ev_ite_neg (by omega) (ev_ite_pos (by omega) (ev_ite_pos (by omega) ?_))))
    rw [e2]
    refine Ev.step (fun k => impl_PartsOf.j2.eq_2 s out fr i false k) (ev_ite_neg (by decide) ?_)
    rw [decide_eq_false (show ¬ fr < 0 by omega)]
    refine Ev.step (fun k => impl_PartsOf.j3.eq_2 s out fr i false false k) (ev_ite_neg (by decide) (ev_ite_neg (by decide) ?_))
    rw [hw]; exact ih (i + 1) (by omega) (by omega) (by omega)
/-- The words of a line: blanks, words, each behind a blank. -/
inductive Line : List Int → List (List Int) → Prop
  | nil : Line [] []
  | blank {l ws} : Line l ws → Line (32 :: l) ws
  | last {p} : Word p → Line p [p]
  | word {p l ws} : Word p → Line l ws → Line (p ++ 32 :: l) (p :: ws)
theorem parts_line (s : ByteArray) (hs : s.size ≤ 600) (l : List Int) (ws : List (List Int)) (h : Line l ws) : ∀ (out : List ByteArray) (i : Int), 0 ≤ i → i ≤ (s.size : Int) → (bytesOf s).drop i.toNat = l → out.length + ws.length ≤ 12 →
    ∃ rs, Ev (fun k => impl_PartsOf.l0 k s out (-1) i) (out ++ rs, true) ∧ rs.map bytesOf = ws := by
  have first : ∀ (p tail : List Int) (out : List ByteArray) (i : Int), Word p → 0 ≤ i → (bytesOf s).drop i.toNat = p ++ tail → ∀ res, Ev (fun k => impl_PartsOf.l0 k s out i (i + (p.length : Int))) res → Ev (fun k => impl_PartsOf.l0 k s out (-1) i) res := by
    intro p tail out i hp h0 hd res hres
    obtain ⟨hne, hg⟩ := hp
    have hl := congrArg List.length hd
    rw [List.length_drop, bo_size, List.length_append] at hl
    have hp0 : 0 < p.length := List.length_pos_iff.2 hne
    have hw : wrap64 (i + 1) = i + 1 := w64 (by omega) (by omega)
    have hb : bt s i = p[0] := by
      rw [bt_bo, List.getD_eq_getElem?_getD]
      have e : (bytesOf s)[i.toNat]? = ((bytesOf s).drop i.toNat)[0]? := by rw [List.getElem?_drop]; rfl
      rw [e, hd, List.getElem?_append_left hp0, List.getElem?_eq_getElem hp0]; rfl
    have hc := hg _ (List.getElem_mem hp0)
    rw [← hb] at hc
    have e1 : wrap64 (bt s i) = bt s i := w64 (by omega) (by omega)
    have e2 : (bt s i == 32) = false := beq_eq_false_iff_ne.2 (by omega)
    refine Ev.step (fun k => impl_PartsOf.l0.eq_2 s out (-1) i k) (ev_ite_pos (by omega) (ev_ite_pos (by omega) (ev_ite_pos (by omega) (ev_bind_some (within_eq _ _ _) ?_))))
    rw [e1, decide_eq_true (show 32 ≤ bt s i ∧ bt s i ≤ 126 by omega)]
    refine Ev.step (fun k => impl_PartsOf.j1.eq_2 s out (-1) i false k) (ev_ite_neg (by decide) (ev_ite_neg (by omega) (ev_ite_pos (by omega) (ev_ite_pos (by omega) ?_))))
    rw [e2]
    refine Ev.step (fun k => impl_PartsOf.j2.eq_2 s out (-1) i false k) (ev_ite_neg (by decide) ?_)
    rw [decide_eq_true (show (-1 : Int) < 0 by omega)]
    refine Ev.step (fun k => impl_PartsOf.j3.eq_2 s out (-1) i false true k) (ev_ite_pos rfl (ev_ite_neg (by decide) ?_))
    rw [hw]
    exact parts_scan s hs p tail out i h0 hd hg res hres (p.length - 1) (i + 1) (by omega) (by omega) (by omega)
  induction h with
  | nil =>
    intro out i h0 h1 hd hl
    have e : i = (s.size : Int) := by have := List.drop_eq_nil_iff.1 hd; rw [bo_size] at this; omega
    have hw : wrap64 (i + 1) = i + 1 := w64 (by omega) (by omega)
    refine ⟨[], ?_, rfl⟩
    rw [List.append_nil]
    refine Ev.step (fun k => impl_PartsOf.l0.eq_2 s out (-1) i k) (ev_ite_pos (by omega) (ev_ite_neg (by omega) ?_))
    refine Ev.step (fun k => impl_PartsOf.j1.eq_2 s out (-1) i false k) (ev_ite_neg (by decide) (ev_ite_pos (by omega) ?_))
    refine Ev.step (fun k => impl_PartsOf.j2.eq_2 s out (-1) i true k) (ev_ite_pos rfl ?_)
    refine Ev.step (fun k => impl_PartsOf.j3.eq_2 s out (-1) i true false k) (ev_ite_neg (by decide) (ev_ite_pos rfl (ev_ite_neg (by omega) ?_)))
    rw [hw]
    exact Ev.step (fun k => impl_PartsOf.l0.eq_2 s out (-1) (i + 1) k) (ev_ite_neg (by omega) (ev_ite_neg (by omega) (Ev.now _)))
  | @blank l ws hl ih =>
    intro out i h0 h1 hd hlim
    obtain ⟨e1, e2, e3⟩ := getD_drop _ _ _ _ hd
    rw [bo_size] at e2
    have hb : bt s i = 32 := by rw [bt_bo]; exact e1
    have hw : wrap64 (i + 1) = i + 1 := w64 (by omega) (by omega)
    obtain ⟨rs, g1, g2⟩ := ih out (i + 1) (by omega) (by omega) (by rw [show (i + 1).toNat = i.toNat + 1 by omega]; exact e3) hlim
    refine ⟨rs, ?_, g2⟩
    refine Ev.step (fun k => impl_PartsOf.l0.eq_2 s out (-1) i k) (ev_ite_pos (by omega) (ev_ite_pos (by omega) (ev_ite_pos (by omega) (ev_bind_some (within_eq _ _ _) ?_))))
    rw [hb, show (wrap64 32 : Int) = 32 from w64 (by omega) (by omega), decide_eq_true (show (32 : Int) ≤ 32 ∧ (32 : Int) ≤ 126 by omega)]
    refine Ev.step (fun k => impl_PartsOf.j1.eq_2 s out (-1) i false k) (ev_ite_neg (by decide) (ev_ite_neg (by omega) (ev_ite_pos (by omega) (ev_ite_pos (by omega) ?_))))
    rw [hb]
    refine Ev.step (fun k => impl_PartsOf.j2.eq_2 s out (-1) i true k) (ev_ite_pos rfl ?_)
    refine Ev.step (fun k => impl_PartsOf.j3.eq_2 s out (-1) i true false k) (ev_ite_neg (by decide) (ev_ite_pos rfl (ev_ite_neg (by omega) ?_)))
    rw [hw]; exact g1
  | @last p hp =>
    intro out i h0 h1 hd hlim
    have hl := congrArg List.length hd
    rw [List.length_drop, bo_size] at hl
    have e : i + (p.length : Int) = (s.size : Int) := by omega
    have hw : wrap64 (i + (p.length : Int) + 1) = i + (p.length : Int) + 1 := w64 (by omega) (by omega)
    refine ⟨[s.extract i.toNat (i + (p.length : Int)).toNat], first p [] out i hp h0 (by rw [hd, List.append_nil]) _ ?_, ?_⟩
    · refine Ev.step (fun k => impl_PartsOf.l0.eq_2 s out i _ k) (ev_ite_pos (by omega) (ev_ite_neg (by omega) ?_))
      refine Ev.step (fun k => impl_PartsOf.j1.eq_2 s out i _ false k) (ev_ite_neg (by decide) (ev_ite_pos (by omega) ?_))
      refine Ev.step (fun k => impl_PartsOf.j2.eq_2 s out i _ true k) (ev_ite_pos rfl ?_)
      refine Ev.step (fun k => impl_PartsOf.j3.eq_2 s out i _ true false k) (ev_ite_neg (by decide) (ev_ite_pos rfl (ev_ite_pos h0 (ev_ite_pos h0 (ev_ite_pos (by omega) (ev_ite_pos (by omega) (ev_ite_pos (by simp at hlim; omega) ?_)))))))
      rw [hw]
      exact Ev.step (fun k => impl_PartsOf.l0.eq_2 s _ (-1) _ k) (ev_ite_neg (by omega) (ev_ite_neg (by simp at hlim ⊢; omega) (Ev.now _)))
    · simp only [List.map_cons, List.map_nil]
      rw [bo_extract, List.take_of_length_le (by rw [bo_size]; omega), hd]
  | @word p l ws hp hl ih =>
    intro out i h0 h1 hd hlim
    have hln := congrArg List.length hd
    rw [List.length_drop, bo_size, List.length_append, List.length_cons] at hln
    have hnext : (bytesOf s).drop (i + (p.length : Int)).toNat = 32 :: l := by
      rw [show (i + (p.length : Int)).toNat = i.toNat + p.length by omega, ← List.drop_drop, hd, List.drop_left]
    obtain ⟨e1, e2, e3⟩ := getD_drop _ _ _ _ hnext
    rw [bo_size] at e2
    have hb : bt s (i + (p.length : Int)) = 32 := by rw [bt_bo]; exact e1
    have hw : wrap64 (i + (p.length : Int) + 1) = i + (p.length : Int) + 1 := w64 (by omega) (by omega)
    obtain ⟨rs, g1, g2⟩ := ih (out ++ [s.extract i.toNat (i + (p.length : Int)).toNat]) (i + (p.length : Int) + 1) (by omega) (by omega) (by rw [show (i + (p.length : Int) + 1).toNat = (i + (p.length : Int)).toNat + 1 by omega]; exact e3) (by simp at hlim ⊢; omega)
    refine ⟨s.extract i.toNat (i + (p.length : Int)).toNat :: rs, first p (32 :: l) out i hp h0 hd _ ?_, ?_⟩
    · refine Ev.step (fun k => impl_PartsOf.l0.eq_2 s out i _ k) (ev_ite_pos (by omega) (ev_ite_pos (by omega) (ev_ite_pos (by omega) (ev_bind_some (within_eq _ _ _) ?_))))
      rw [hb, show (wrap64 32 : Int) = 32 from w64 (by omega) (by omega), decide_eq_true (show (32 : Int) ≤ 32 ∧ (32 : Int) ≤ 126 by omega)]
      refine Ev.step (fun k => impl_PartsOf.j1.eq_2 s out i _ false k) (ev_ite_neg (by decide) (ev_ite_neg (by omega) (ev_ite_pos (by omega) (ev_ite_pos (by omega) ?_))))
      rw [hb]
      refine Ev.step (fun k => impl_PartsOf.j2.eq_2 s out i _ true k) (ev_ite_pos rfl ?_)
      refine Ev.step (fun k => impl_PartsOf.j3.eq_2 s out i _ true false k) (ev_ite_neg (by decide) (ev_ite_pos rfl (ev_ite_pos h0 (ev_ite_pos h0 (ev_ite_pos (by omega) (ev_ite_pos (by omega) (ev_ite_pos (by simp at hlim; omega) ?_)))))))
      rw [hw]
      simpa using g1
    · simp only [List.map_cons, g2]
      congr 1
      rw [bo_extract, List.drop_take, hd, show (i + (p.length : Int)).toNat - i.toNat = p.length by omega, List.take_left]
/-- The words of a line. -/
theorem parts_text (s : ByteArray) (hs : s.size ≤ 600) (ws : List (List Int)) (h : Line (bytesOf s) ws) (hl : ws.length ≤ 12) : ∃ rs, Ev (fun k => impl_PartsOf.f k s) (rs, true) ∧ rs.map bytesOf = ws := by
  obtain ⟨rs, g1, g2⟩ := parts_line s hs _ ws h [] 0 (by omega) (by omega) (by simp) (by simpa using hl)
  rw [List.nil_append] at g1
  exact ⟨rs, Ev.congr (fun k => if_neg (by omega)) g1, g2⟩
/-! ### events and their texts -/
def wd (x : Int) : ByteArray × Int :=
  if x = 1 then (⟨#[115, 104, 111, 119]⟩, 2) else if x = 2 then (⟨#[103, 105, 118, 101]⟩, 1) else if x = 3 then (⟨#[116, 119, 105, 99, 101]⟩, 1) else if x = 4 then (⟨#[108, 111, 115, 101]⟩, 1) else if x = 5 then (⟨#[115, 112, 111, 105, 108]⟩, 3) else if x = 6 then (⟨#[106, 117, 110, 107]⟩, 3) else if x = 7 then (⟨#[97, 108, 108]⟩, 0) else if x = 8 then (⟨#[116, 105, 99, 107]⟩, 0) else if x = 9 then (⟨#[108, 97, 121]⟩, 1) else (⟨#[]⟩, 0)
theorem wd_eq (x : Int) : impl_wordOf.f x = some (wd x) := by
  unfold impl_wordOf.f wd
  repeat' split
  all_goals rfl
theorem wd_fact : ∀ k : Fin 9, (bytesOf (wd ((k.val : Int) + 1)).1 ≠ [] ∧ (∀ c ∈ bytesOf (wd ((k.val : Int) + 1)).1, 33 ≤ c ∧ c ≤ 126 ∧ c ≠ 35) ∧ (bytesOf (wd ((k.val : Int) + 1)).1).length ≤ 5) ∧ 0 ≤ (wd ((k.val : Int) + 1)).2 ∧ (wd ((k.val : Int) + 1)).2 ≤ 3 := by decide
theorem wd_apart : ∀ k j : Fin 9, j < k → bytesOf (wd ((j.val : Int) + 1)).1 ≠ bytesOf (wd ((k.val : Int) + 1)).1 := by decide
theorem wd_tock : ∀ k : Fin 9, bytesOf (wd ((k.val : Int) + 1)).1 ≠ [116, 111, 99, 107] := by decide
theorem wd_ok (k : Int) (h1 : 1 ≤ k) (h9 : k ≤ 9) : (bytesOf (wd k).1 ≠ [] ∧ (∀ c ∈ bytesOf (wd k).1, 33 ≤ c ∧ c ≤ 126 ∧ c ≠ 35) ∧ (bytesOf (wd k).1).length ≤ 5) ∧ 0 ≤ (wd k).2 ∧ (wd k).2 ≤ 3 := by
  have h := wd_fact ⟨(k - 1).toNat, by omega⟩
  have e : (((k - 1).toNat : Nat) : Int) + 1 = k := by omega
  simp only at h
  rw [e] at h
  exact h
theorem wd_ne (k j : Int) (h1 : 1 ≤ j) (hj : j < k) (h9 : k ≤ 9) : bytesOf (wd j).1 ≠ bytesOf (wd k).1 := by
  have h := wd_apart ⟨(k - 1).toNat, by omega⟩ ⟨(j - 1).toNat, by omega⟩ (by show (j - 1).toNat < (k - 1).toNat; omega)
  have e : (((k - 1).toNat : Nat) : Int) + 1 = k := by omega
  have e' : (((j - 1).toNat : Nat) : Int) + 1 = j := by omega
  simp only at h
  rw [e, e'] at h
  exact h
theorem wd_notock (k : Int) (h1 : 1 ≤ k) (h9 : k ≤ 9) : bytesOf (wd k).1 ≠ [116, 111, 99, 107] := by
  have h := wd_tock ⟨(k - 1).toNat, by omega⟩
  have e : (((k - 1).toNat : Nat) : Int) + 1 = k := by omega
  simp only at h
  rw [e] at h
  exact h
/-- An event that has a text. -/
def Good (kind a b c : Int) : Prop := 1 ≤ kind ∧ kind ≤ 9 ∧ (∀ x ∈ [a, b, c], 0 ≤ x ∧ x ≤ 1000000) ∧ (∀ i : Int, (wd kind).2 ≤ i → i < 3 → rd [a, b, c] i = 0)
/-- What stands for a number, and reads as it. -/
def NumText (x : Int) (p : List Int) : Prop := p.length ≤ 10 ∧ 0 < p.length ∧ (∀ c ∈ p, 48 ≤ c ∧ c ≤ 57) ∧ ∀ s : ByteArray, bytesOf s = p → Ev (fun k => impl_ReadDecimal.f k s) (x, true)
theorem num_text (x : Int) (h0 : 0 ≤ x) (h1 : x ≤ 1000000) : ∃ r, Ev (fun k => impl_Decimal.f k x) r ∧ NumText x (bytesOf r) := by
  obtain ⟨r, g1, g2, g3, g4, g5⟩ := readdec_text x h0 (by omega)
  exact ⟨r, g1, by rw [bo_size]; exact g4, by rw [bo_size]; exact g5, g3, fun s hs => by rw [bo_inj hs]; exact g2⟩
/-- The words of an event's text, from a number on. -/
theorem joinB_snoc (b : Int) (ps : List (List Int)) (q : List Int) (h : ps ≠ []) : joinB b (ps ++ [q]) = joinB b ps ++ b :: q := by
  induction ps with
  | nil => exact absurd rfl h
  | cons p r ih =>
    cases r with
    | nil => simp [joinB]
    | cons p2 r =>
      have := ih (by simp)
      simp only [List.cons_append, joinB] at this ⊢
      rw [this]; simp
def NumsOf (l : List Int) (ps : List (List Int)) : Prop := ∀ j (h' : j < ps.length), NumText (rd l (j : Int)) ps[j]
theorem numsOf_snoc (l : List Int) (ps : List (List Int)) (q : List Int) (h : NumsOf l ps) (hq : NumText (rd l (ps.length : Int)) q) : NumsOf l (ps ++ [q]) := by
  intro j h'
  by_cases hj : j < ps.length
  · rw [List.getElem_append_left hj]; exact h j hj
  · have e : j = ps.length := by simp at h'; omega
    subst e
    rw [List.getElem_append_right (Nat.le_refl _)]
    simpa using hq
theorem eventtext_loop (w : List Int) (n a b c : Int) (hw : w.length ≤ 5) (hn0 : 0 ≤ n) (hn3 : n ≤ 3) (hv : ∀ x ∈ [a, b, c], 0 ≤ x ∧ x ≤ 1000000) (hz : ∀ i : Int, n ≤ i → i < 3 → rd [a, b, c] i = 0) (d : Nat) : ∀ (t : ByteArray) (i : Int) (ps : List (List Int)), 0 ≤ i → i ≤ 3 → 3 - i = d → bytesOf t = joinB 32 (w :: ps) → (ps.length : Int) = (if i < n then i else n) → (t.size : Int) ≤ 5 + 11 * i → NumsOf [a, b, c] ps →
    ∃ r qs, Ev (fun k => impl_EventText.l0 k t n [a, b, c] 3 i) (r, true) ∧ bytesOf r = joinB 32 (w :: qs) ∧ (qs.length : Int) = n ∧ NumsOf [a, b, c] qs ∧ r.size ≤ 38 := by
  induction d with
  | zero =>
    intro t i ps h0 h1 hd hb hl ht hN
    refine ⟨t, ps, Ev.step (fun k => impl_EventText.l0.eq_2 t n _ 3 i k) (ev_ite_neg (by omega) (Ev.now _)), hb, by rw [hl]; split <;> omega, hN, by omega⟩
  | succ d ih =>
    intro t i ps h0 h1 hd hb hl ht hN
    have hlt : i < 3 := by omega
    have hw1 : wrap64 (i + 1) = i + 1 := w64 (by omega) (by omega)
    have hlen : (([a, b, c] : List Int).length : Int) = 3 := rfl
    have hmem : rd [a, b, c] i ∈ [a, b, c] := by
      unfold rd
      rw [List.getD_eq_getElem?_getD, List.getElem?_eq_getElem (show i.toNat < ([a, b, c] : List Int).length by simp; omega)]
      exact List.getElem_mem _
    have hx := hv _ hmem
    have hin : impl_within.f (rd [a, b, c] i) 0 1000000000 = some true := by rw [within_eq, decide_eq_true (by omega)]
    by_cases hin_ : i < n
    · rw [if_pos hin_] at hl
      obtain ⟨s, q1, q2⟩ := num_text _ hx.1 hx.2
      have hss : s.size ≤ 10 := by have := q2.1; rwa [bo_size] at this
      have hc : (⟨#[32]⟩ : ByteArray).size = 1 := rfl
      have b32 : bytesOf (⟨#[32]⟩ : ByteArray) = [32] := rfl
      have hz2 : ((t ++ (⟨#[32]⟩ : ByteArray)) ++ s).size = t.size + 1 + s.size := by rw [ByteArray.size_append, ByteArray.size_append, hc]
      obtain ⟨r, qs, g1, g2⟩ := ih ((t ++ (⟨#[32]⟩ : ByteArray)) ++ s) (i + 1) (ps ++ [bytesOf s]) (by omega) (by omega) (by omega) (by
        rw [bo_append, bo_append, b32, hb, ← List.cons_append, joinB_snoc _ _ _ (by simp)]; simp) (by rw [List.length_append, List.length_singleton]; split <;> omega) (by rw [hz2]; omega) (numsOf_snoc _ _ _ hN (by rw [hl]; exact q2))
      refine ⟨r, qs, ?_, g2⟩
      refine Ev.step (fun k => impl_EventText.l0.eq_2 t n _ 3 i k) (ev_ite_pos hlt (ev_ite_pos h0 (ev_ite_pos (by rw [hlen]; omega) (ev_ite_neg (by omega) (ev_bind_some hin ?_)))))
      refine Ev.step (fun k => impl_EventText.j1.eq_2 t n i _ _ 3 i false k) (ev_ite_neg (by decide) (ev_ite_pos hin_ (ev_ite_pos (by omega) (Ev.bind q1 (ev_ite_pos (by rw [ByteArray.size_append, hc]; omega) ?_)))))
      rw [hw1]; exact g1
    · rw [if_neg hin_] at hl
      obtain ⟨r, qs, g1, g2⟩ := ih t (i + 1) ps (by omega) (by omega) (by omega) hb (by rw [if_neg (by omega)]; exact hl) (by omega) hN
      refine ⟨r, qs, ?_, g2⟩
      refine Ev.step (fun k => impl_EventText.l0.eq_2 t n _ 3 i k) (ev_ite_pos hlt (ev_ite_pos h0 (ev_ite_pos (by rw [hlen]; omega) (ev_ite_pos (by omega) (ev_ite_pos (hz i (by omega) hlt) (ev_bind_some hin ?_))))))
      refine Ev.step (fun k => impl_EventText.j1.eq_2 t n i _ _ 3 i false k) (ev_ite_neg (by decide) (ev_ite_neg hin_ ?_))
      rw [hw1]; exact g1
/-- The words of an event's text. -/
def WordsOf (kind a b c : Int) (ws : List (List Int)) : Prop := ∃ qs, ws = bytesOf (wd kind).1 :: qs ∧ (qs.length : Int) = (wd kind).2 ∧ NumsOf [a, b, c] qs
theorem event_text (kind a b c : Int) (h : Good kind a b c) : ∃ r ws, Ev (fun k => impl_EventText.f k kind a b c) (r, true) ∧ bytesOf r = joinB 32 ws ∧ WordsOf kind a b c ws ∧ r.size ≤ 38 := by
  obtain ⟨h1, h9, hv, hz⟩ := h
  obtain ⟨⟨f1, f2, f3⟩, f4, f5⟩ := wd_ok kind h1 h9
  obtain ⟨r, qs, g1, g2, g3, g4, g5⟩ := eventtext_loop (bytesOf (wd kind).1) (wd kind).2 a b c f3 f4 f5 hv hz 3 (wd kind).1 0 [] (by omega) (by omega) (by omega) rfl (by split <;> simp <;> omega) (by rw [bo_size] at f3; omega) (by intro j hj; exact absurd hj (by simp))
  refine ⟨r, bytesOf (wd kind).1 :: qs, ev_bind_some (wd_eq kind) (ev_ite_neg ?_ (ev_bind_some rfl g1)), g2, ⟨qs, rfl, g3, g4⟩, g5⟩
  intro he
  apply f1
  have e2 : (wd kind).1 = ByteArray.empty := toList_same.1 (he.trans (by rw [ByteArray.toList_eq]; rfl))
  rw [e2]; rfl
theorem words_word (kind a b c : Int) (h1 : 1 ≤ kind) (h9 : kind ≤ 9) (ws : List (List Int)) (h : WordsOf kind a b c ws) : ∀ p ∈ ws, Word p := by
  obtain ⟨qs, rfl, _, hN⟩ := h
  obtain ⟨⟨f1, f2, _⟩, _⟩ := wd_ok kind h1 h9
  intro p hp
  rcases List.mem_cons.1 hp with rfl | hp
  · exact ⟨f1, fun c hc => ⟨(f2 c hc).1, (f2 c hc).2.1⟩⟩
  · obtain ⟨j, hj, rfl⟩ := List.getElem_of_mem hp
    obtain ⟨_, n2, n3, _⟩ := hN j hj
    exact ⟨List.length_pos_iff.1 n2, fun c hc => by have := n3 c hc; omega⟩
theorem line_join (ws : List (List Int)) (hne : ws ≠ []) (h : ∀ p ∈ ws, Word p) : Line (joinB 32 ws) ws := by
  induction ws with
  | nil => exact absurd rfl hne
  | cons p r ih =>
    cases r with
    | nil => exact Line.last (h p (by simp))
    | cons q r => exact Line.word (h p (by simp)) (ih (by simp) (fun x hx => h x (by simp at hx ⊢; exact Or.inr hx)))
theorem line_join_blank (ws : List (List Int)) (hne : ws ≠ []) (h : ∀ p ∈ ws, Word p) : Line (joinB 32 ws ++ [32]) ws := by
  induction ws with
  | nil => exact absurd rfl hne
  | cons p r ih =>
    cases r with
    | nil => exact Line.word (h p (by simp)) Line.nil
    | cons q r =>
      have := ih (by simp) (fun x hx => h x (by simp at hx ⊢; exact Or.inr hx))
      have e : joinB 32 (p :: q :: r) ++ [32] = p ++ 32 :: (joinB 32 (q :: r) ++ [32]) := by simp [joinB]
      rw [e]; exact Line.word (h p (by simp)) this
/-- The numbers of an event. -/
theorem numbers_text (rs : List ByteArray) (kind a b c : Int) (qs : List (List Int)) (hN : NumsOf [a, b, c] qs) (hq3 : qs.length ≤ 3) (hrs : (rs.drop 1).map bytesOf = qs) (d : Nat) : ∀ i : Int, 0 ≤ i → i ≤ (qs.length : Int) → (qs.length : Int) - i = d →
    Ev (fun k => impl_ReadEvent.l1 k rs kind (rs.drop 1) ((rs.drop 1).length : Int) i (if 0 < i then a else 0) (if 1 < i then b else 0) (if 2 < i then c else 0)) (kind, (if 0 < (qs.length : Int) then a else 0), (if 1 < (qs.length : Int) then b else 0), (if 2 < (qs.length : Int) then c else 0), true) := by
  have hl : (rs.drop 1).length = qs.length := by rw [← hrs, List.length_map]
  induction d with
  | zero =>
    intro i h0 h1 hd
    obtain rfl : i = (qs.length : Int) := by omega
    exact Ev.step (fun k => impl_ReadEvent.l1.eq_2 rs kind _ _ _ _ _ _ k) (ev_ite_neg (by omega) (Ev.now _))
  | succ d ih =>
    intro i h0 h1 hd
    have hi : i.toNat < qs.length := by omega
    have hi' : i.toNat < (rs.drop 1).length := by omega
    have hw : wrap64 (i + 1) = i + 1 := w64 (by omega) (by omega)
    have hrd : rdOf ByteArray.empty (rs.drop 1) i = (rs.drop 1)[i.toNat] := by unfold rdOf; rw [List.getD_eq_getElem?_getD, List.getElem?_eq_getElem hi']; rfl
    have hb : bytesOf (rs.drop 1)[i.toNat] = qs[i.toNat] := by simp only [← hrs, List.getElem_map]
    have g := (hN i.toNat hi).2.2.2 _ hb
    rw [← hrd, show ((i.toNat : Nat) : Int) = i by omega] at g
    have hn := ih (i + 1) (by omega) (by omega) (by omega)
    refine Ev.step (fun k => impl_ReadEvent.l1.eq_2 rs kind _ _ _ _ _ _ k) (ev_ite_pos (by omega) (ev_ite_pos h0 (ev_ite_pos (by omega) (Ev.bind g (ev_ite_pos rfl ?_)))))
    rw [hw]
    by_cases e0 : i = 0
    · subst e0
      refine ev_ite_pos rfl ?_
      have z : rd [a, b, c] 0 = a := rfl
      simpa [z] using hn
    · by_cases e1 : i = 1
      · subst e1
        refine ev_ite_neg (by omega) (ev_ite_pos rfl ?_)
        have z : rd [a, b, c] 1 = b := rfl
        simpa [z] using hn
      · obtain rfl : i = 2 := by omega
        refine ev_ite_neg (by omega) (ev_ite_neg (by omega) (ev_ite_pos rfl ?_))
        have z : rd [a, b, c] 2 = c := rfl
        simpa [z] using hn
theorem read_words (rs : List ByteArray) (kind a b c : Int) (h : Good kind a b c) (ws : List (List Int)) (hw : WordsOf kind a b c ws) (hrs : rs.map bytesOf = ws) (d : Nat) : ∀ i : Int, 1 ≤ i → i ≤ kind → kind - i = d → Ev (fun k => impl_ReadEvent.l0 k rs i) (kind, a, b, c, true) := by
  obtain ⟨h1, h9, hv, hz⟩ := h
  obtain ⟨qs, rfl, hql, hN⟩ := hw
  obtain ⟨⟨f1, f2, f3⟩, f4, f5⟩ := wd_ok kind h1 h9
  obtain ⟨r0, rt, rfl⟩ : ∃ r0 rt, rs = r0 :: rt := by
    cases rs with
    | nil => simp at hrs
    | cons x y => exact ⟨x, y, rfl⟩
  simp only [List.map_cons, List.cons.injEq] at hrs
  obtain ⟨e0, er⟩ := hrs
  have hl : rt.length = qs.length := by rw [← er, List.length_map]
  have hr0 : rdOf ByteArray.empty (r0 :: rt) 0 = r0 := rfl
  induction d with
  | zero =>
    intro i hi hk hd
    obtain rfl : i = kind := by omega
    refine Ev.step (fun k => impl_ReadEvent.l0.eq_2 _ i k) (ev_ite_pos h9 (ev_bind_some (wd_eq i) (ev_ite_pos (by rw [List.length_cons]; omega) (ev_ite_pos (by rw [hr0, bo_inj e0]) ?_))))
    have hb : ((wd i).2 != wrap64 (((r0 :: rt).length : Int) - 1)) = false := by
      rw [bne_eq_false_iff_eq, List.length_cons, w64 (by omega) (by omega)]; omega
    rw [hb]
    refine Ev.step (fun k => impl_ReadEvent.j2.eq_2 _ i false k) (ev_ite_neg (by decide) (ev_ite_pos (by rw [List.length_cons]; omega) (ev_bind_some rfl ?_)))
    have g := numbers_text (r0 :: rt) i a b c qs hN (by omega) er qs.length 0 (by omega) (by omega) (by omega)
    have za : (if 0 < (qs.length : Int) then a else 0) = a := by
      split
      · rfl
      · have := hz 0 (by omega) (by omega); exact this.symm
    have zb : (if 1 < (qs.length : Int) then b else 0) = b := by
      split
      · rfl
      · have := hz 1 (by omega) (by omega); exact this.symm
    have zc : (if 2 < (qs.length : Int) then c else 0) = c := by
      split
      · rfl
      · have := hz 2 (by omega) (by omega); exact this.symm
    rw [za, zb, zc] at g
    exact g
  | succ d ih =>
    intro i hi hk hd
    have hlt : i < kind := by omega
    refine Ev.step (fun k => impl_ReadEvent.l0.eq_2 _ i k) (ev_ite_pos (by omega) (ev_bind_some (wd_eq i) (ev_ite_pos (by rw [List.length_cons]; omega) (ev_ite_neg ?_ ?_))))
    · rw [hr0]
      intro he
      apply wd_ne kind i hi hlt h9
      rw [toList_same.1 he, e0]
    · refine Ev.step (fun k => impl_ReadEvent.j2.eq_2 _ i true k) (ev_ite_pos rfl ?_)
      rw [w64 (by omega) (by omega)]; exact ih (i + 1) (by omega) (by omega) (by omega)
/-- A line with an event's words reads as the event. -/
theorem read_line (s : ByteArray) (hs : s.size ≤ 600) (kind a b c : Int) (h : Good kind a b c) (ws : List (List Int)) (hw : WordsOf kind a b c ws) (hl : Line (bytesOf s) ws) :
    Ev (fun k => impl_ReadEvent.f k s) (kind, a, b, c, true) ∧ ∃ rs, Ev (fun k => impl_PartsOf.f k s) (rs, true) ∧ rs.map bytesOf = ws := by
  have hlen : ws.length ≤ 12 := by
    obtain ⟨qs, rfl, hql, _⟩ := hw
    have := (wd_ok kind h.1 h.2.1).2.2
    simp; omega
  obtain ⟨rs, g1, g2⟩ := parts_text s hs ws hl hlen
  refine ⟨Ev.bind g1 (ev_ite_pos rfl ?_), rs, g1, g2⟩
  have hne : ((rs.length : Int) == 0) = false := by
    apply beq_eq_false_iff_ne.2
    obtain ⟨qs, rfl, _, _⟩ := hw
    have := congrArg List.length g2
    simp at this; omega
  simp only
  rw [hne]
  exact Ev.step (fun k => impl_ReadEvent.j0.eq_2 rs false k) (ev_ite_neg (by decide) (read_words rs kind a b c h ws hw g2 (kind - 1).toNat 1 (by omega) h.1 (by have := h.1; omega)))
/-! ### drawn events -/
theorem below_big (b : List Int) (i h n : Int) (hc : Cur b i) (h1 : 257 ≤ n) (h2 : n ≤ 4000000000) : ∃ x i' h', spec_l01Below.f b i h n = some (x, i', h') ∧ 0 ≤ x ∧ x < n ∧ Cur b i' := by
  obtain ⟨x1, i1, h1', g1, a0, a1, c1⟩ := byte_ev b i h hc
  obtain ⟨x2, i2, h2', g2, b0, b1, c2⟩ := byte_ev b i1 h1' c1
  obtain ⟨x3, i3, h3', g3, d0, d1, c3⟩ := byte_ev b i2 h2' c2
  obtain ⟨x4, i4, h4', g4, e0, e1, c4⟩ := byte_ev b i3 h3' c3
  have w1 : wrap64 (x1 * 16777216) = x1 * 16777216 := w64 (by omega) (by omega)
  have w2 : wrap64 (x2 * 65536) = x2 * 65536 := w64 (by omega) (by omega)
  have w3 : wrap64 (x3 * 256) = x3 * 256 := w64 (by omega) (by omega)
  have w4 : wrap64 (x1 * 16777216 + x2 * 65536) = x1 * 16777216 + x2 * 65536 := w64 (by omega) (by omega)
  have w5 : wrap64 (x1 * 16777216 + x2 * 65536 + x3 * 256) = x1 * 16777216 + x2 * 65536 + x3 * 256 := w64 (by omega) (by omega)
  have w6 : wrap64 (x1 * 16777216 + x2 * 65536 + x3 * 256 + x4) = x1 * 16777216 + x2 * 65536 + x3 * 256 + x4 := w64 (by omega) (by omega)
  refine ⟨Int.tmod (x1 * 16777216 + x2 * 65536 + x3 * 256 + x4) n, i4, h4', ?_, ?_, ?_, c4⟩
  · unfold spec_l01Below.f
    rw [if_neg (by omega), if_neg (by omega), g1, Option.bind_some]
    simp only
    rw [g2, Option.bind_some]
    simp only
    rw [g3, Option.bind_some]
    simp only
    rw [g4, Option.bind_some, if_neg (by omega)]
    simp only
    rw [w1, w2, w4, w3, w5, w6]
  · rw [Int.tmod_eq_emod_of_nonneg (by omega)]; exact Int.emod_nonneg _ (by omega)
  · rw [Int.tmod_eq_emod_of_nonneg (by omega)]; exact Int.emod_lt_of_pos _ (by omega)
theorem pick_ev (b : List Int) (i h : Int) (hc : Cur b i) (l : List Int) (h1 : 1 ≤ l.length) (h2 : l.length ≤ 256) : ∃ x i' h', spec_l01PickInt.f b i h l = some (x, i', h') ∧ x ∈ l ∧ Cur b i' := by
  obtain ⟨x, i', h', g, g0, g1, g2⟩ := below_ev b i h (l.length : Int) hc (by omega) (by omega)
  refine ⟨rd l x, i', h', ?_, ?_, g2⟩
  · unfold spec_l01PickInt.f
    rw [g, Option.bind_some, if_pos g0, if_pos g1]
  · unfold rd
    rw [List.getD_eq_getElem?_getD, List.getElem?_eq_getElem (show x.toNat < l.length by omega)]
    exact List.getElem_mem _
theorem seq_ev (b : List Int) (i h : Int) (hc : Cur b i) : ∃ x i' h', spec_l22Seq.f b i h = some (x, i', h') ∧ 0 ≤ x ∧ x ≤ 65535 ∧ Cur b i' := by
  obtain ⟨o, i1, h1, g, c1⟩ := once_ev b i h 3 hc (by omega) (by omega)
  unfold spec_l22Seq.f
  rw [g, Option.bind_some]
  cases o with
  | true =>
    obtain ⟨x, i2, h2, k, m, c2⟩ := pick_ev b i1 h1 c1 [0, 65535, 65530, 65520, 32767, 32768] (by simp) (by simp)
    refine ⟨x, i2, h2, ?_, ?_, ?_, c2⟩
    · rw [if_pos rfl]; simp only; rw [k, Option.bind_some]
    · simp at m; omega
    · simp at m; omega
  | false =>
    obtain ⟨x, i2, h2, k, m0, m1, c2⟩ := below_big b i1 h1 65536 c1 (by omega) (by omega)
    refine ⟨x, i2, h2, ?_, m0, by omega, c2⟩
    rw [if_neg (by simp)]; simp only; rw [k, Option.bind_some]
theorem good_of (kind a b c : Int) (h1 : 1 ≤ kind) (h9 : kind ≤ 9) (ha : 0 ≤ a ∧ a ≤ 1000000) (hb : 0 ≤ b ∧ b ≤ 1000000) (hc : 0 ≤ c ∧ c ≤ 1000000) (h0 : (wd kind).2 ≤ 0 → a = 0) (h1' : (wd kind).2 ≤ 1 → b = 0) (h2 : (wd kind).2 ≤ 2 → c = 0) : Good kind a b c := by
  refine ⟨h1, h9, by simp; omega, fun i hi h3 => ?_⟩
  have h5 := (wd_ok kind h1 h9).2.1
  by_cases e0 : i = 0
  · subst e0; exact h0 hi
  · by_cases e1 : i = 1
    · subst e1; exact h1' hi
    · obtain rfl : i = 2 := by omega
      exact h2 hi
theorem event_ev (b : List Int) (i h : Int) (hc : Cur b i) : ∃ kind a b' c i' h', Ev (fun k => spec_l29Event.f k b i h 3) (kind, a, b', c, i', h') ∧ Good kind a b' c ∧ Cur b i' := by
  obtain ⟨x, i1, h1, g, g0, g1, c1⟩ := below_ev b i h 16 hc (by omega) (by omega)
  have last : ∀ t : Bool, (t = true → x = 6 ∨ x = 7 ∨ x = 8 ∨ x = 9) → ∃ kind a b' c i' h', Ev (fun k => spec_l29Event.j0 k 3 x t b i1 h1) (kind, a, b', c, i', h') ∧ Good kind a b' c ∧ Cur b i' := by
    intro t _
    cases t with
    | true => exact ⟨8, 0, 0, 0, i1, h1, Ev.step (fun k => spec_l29Event.j0.eq_2 3 x true b i1 h1 k) (ev_ite_pos rfl (Ev.now _)), good_of 8 0 0 0 (by omega) (by omega) (by omega) (by omega) (by omega) (fun _ => rfl) (fun _ => rfl) (fun _ => rfl), c1⟩
    | false =>
      have go : ∀ r, Ev (fun (_ : Nat) => if x = 10 then (some (7, 0, 0, 0, i1, h1)) else (if x = 11 then (some (7, 0, 0, 0, i1, h1)) else ((spec_l01Once.f b i1 h1 5).bind fun bt173 => (if bt173.1 = true then ((spec_l01Below.f b bt173.2.1 bt173.2.2 3).bind fun bt176 => (some (1, bt176.1, 1, 0, bt176.2.1, bt176.2.2))) else ((spec_l01Below.f b bt173.2.1 bt173.2.2 3).bind fun bt179 => (some (1, bt179.1, 0, 0, bt179.2.1, bt179.2.2))))))) r → Ev (fun k => spec_l29Event.j0 k 3 x false b i1 h1) r := fun r hr => Ev.step (fun k => spec_l29Event.j0.eq_2 3 x false b i1 h1 k) (ev_ite_neg (by decide) hr)
      have all7 : Good 7 0 0 0 := good_of 7 0 0 0 (by omega) (by omega) (by omega) (by omega) (by omega) (fun _ => rfl) (fun _ => rfl) (fun _ => rfl)
      by_cases e10 : x = 10
      · exact ⟨7, 0, 0, 0, i1, h1, go _ (ev_ite_pos e10 (Ev.now _)), all7, c1⟩
      · by_cases e11 : x = 11
        · exact ⟨7, 0, 0, 0, i1, h1, go _ (ev_ite_neg e10 (ev_ite_pos e11 (Ev.now _))), all7, c1⟩
        · obtain ⟨o, i2, h2, k2, c2⟩ := once_ev b i1 h1 5 c1 (by omega) (by omega)
          obtain ⟨y, i3, h3, k3, y0, y1, c3⟩ := below_ev b i2 h2 3 c2 (by omega) (by omega)
          have hw : (wd 1).2 = 2 := rfl
          cases o with
          | true => exact ⟨1, y, 1, 0, i3, h3, go _ (ev_ite_neg e10 (ev_ite_neg e11 (ev_bind_some k2 (ev_ite_pos rfl (ev_bind_some k3 (Ev.now _)))))), good_of 1 y 1 0 (by omega) (by omega) (by omega) (by omega) (by omega) (by rw [hw]; omega) (by rw [hw]; omega) (fun _ => rfl), c3⟩
          | false => exact ⟨1, y, 0, 0, i3, h3, go _ (ev_ite_neg e10 (ev_ite_neg e11 (ev_bind_some k2 (ev_ite_neg (fun h => Bool.noConfusion h) (ev_bind_some k3 (Ev.now _)))))), good_of 1 y 0 0 (by omega) (by omega) (by omega) (by omega) (by omega) (by rw [hw]; omega) (by rw [hw]; omega) (fun _ => rfl), c3⟩
  have one : ∀ (kind n : Int), 1 ≤ kind → kind ≤ 9 → (wd kind).2 = 1 → 1 ≤ n → n ≤ 256 → ∃ y i' h', spec_l01Below.f b i1 h1 n = some (y, i', h') ∧ Good kind y 0 0 ∧ Cur b i' := by
    intro kind n k1 k9 hw n1 n2
    obtain ⟨y, i2, h2, k2, y0, y1, c2⟩ := below_ev b i1 h1 n c1 n1 n2
    exact ⟨y, i2, h2, k2, good_of kind y 0 0 k1 k9 (by omega) (by omega) (by omega) (by rw [hw]; omega) (fun _ => rfl) (fun _ => rfl), c2⟩
  by_cases e0 : x = 0
  · obtain ⟨y, i2, h2, k2, gd, c2⟩ := one 4 4 (by omega) (by omega) rfl (by omega) (by omega)
    exact ⟨4, y, 0, 0, i2, h2, ev_bind_some g (ev_ite_pos e0 (ev_bind_some k2 (Ev.now _))), gd, c2⟩
  by_cases e1 : x = 1
  · obtain ⟨y, i2, h2, k2, gd, c2⟩ := one 3 4 (by omega) (by omega) rfl (by omega) (by omega)
    exact ⟨3, y, 0, 0, i2, h2, ev_bind_some g (ev_ite_neg e0 (ev_ite_pos e1 (ev_bind_some k2 (Ev.now _)))), gd, c2⟩
  by_cases e2 : x = 2
  · obtain ⟨y, i2, h2, k2, gd, c2⟩ := one 2 5 (by omega) (by omega) rfl (by omega) (by omega)
    exact ⟨2, y, 0, 0, i2, h2, ev_bind_some g (ev_ite_neg e0 (ev_ite_neg e1 (ev_ite_pos e2 (ev_bind_some k2 (Ev.now _))))), gd, c2⟩
  by_cases e3 : x = 3
  · obtain ⟨y, i2, h2, k2, y0, y1, c2⟩ := below_ev b i1 h1 3 c1 (by omega) (by omega)
    obtain ⟨z, i3, h3, k3, z0, z1, c3⟩ := below_ev b i2 h2 60 c2 (by omega) (by omega)
    obtain ⟨v, i4, h4, k4, v0, v1, c4⟩ := below_ev b i3 h3 255 c3 (by omega) (by omega)
    have hw : (wd 5).2 = 3 := rfl
    have hv : wrap64 (1 + v) = 1 + v := w64 (by omega) (by omega)
    refine ⟨5, y, z, 1 + v, i4, h4, ev_bind_some g (ev_ite_neg e0 (ev_ite_neg e1 (ev_ite_neg e2 (ev_ite_pos e3 (ev_bind_some k2 (ev_bind_some k3 (ev_bind_some k4 ?_))))))), good_of 5 y z (1 + v) (by omega) (by omega) (by omega) (by omega) (by omega) (by rw [hw]; omega) (by rw [hw]; omega) (by rw [hw]; omega), c4⟩
    simp only
    rw [hv]; exact Ev.now _
  by_cases e4 : x = 4
  · obtain ⟨y, i2, h2, k2, y0, y1, c2⟩ := below_ev b i1 h1 3 c1 (by omega) (by omega)
    obtain ⟨z, i3, h3, k3, z0, z1, c3⟩ := seq_ev b i2 h2 c2
    obtain ⟨v, i4, h4, k4, v0, v1, c4⟩ := below_big b i3 h3 1000 c3 (by omega) (by omega)
    have hw : (wd 6).2 = 3 := rfl
    exact ⟨6, y, z, v, i4, h4, ev_bind_some g (ev_ite_neg e0 (ev_ite_neg e1 (ev_ite_neg e2 (ev_ite_neg e3 (ev_ite_pos e4 (ev_bind_some k2 (ev_bind_some k3 (ev_bind_some k4 (Ev.now _))))))))), good_of 6 y z v (by omega) (by omega) (by omega) (by omega) (by omega) (by rw [hw]; omega) (by rw [hw]; omega) (by rw [hw]; omega), c4⟩
  by_cases e5 : x = 5
  · obtain ⟨y, i2, h2, k2, gd, c2⟩ := one 9 2 (by omega) (by omega) rfl (by omega) (by omega)
    exact ⟨9, y, 0, 0, i2, h2, ev_bind_some g (ev_ite_neg e0 (ev_ite_neg e1 (ev_ite_neg e2 (ev_ite_neg e3 (ev_ite_neg e4 (ev_ite_pos e5 (ev_bind_some k2 (Ev.now _)))))))), gd, c2⟩
  have tail : ∀ r (t : Bool), Ev (fun k => spec_l29Event.j0 k 3 x t b i1 h1) r → (if x = 6 then t = (x == 6) else if x = 7 then t = (x == 7) else if x = 8 then t = (x == 8) else t = (x == 9)) → Ev (fun k => spec_l29Event.f k b i h 3) r := by
    intro r t hr ht
    refine ev_bind_some g (ev_ite_neg e0 (ev_ite_neg e1 (ev_ite_neg e2 (ev_ite_neg e3 (ev_ite_neg e4 (ev_ite_neg e5 ?_))))))
    by_cases e6 : x = 6
    · rw [if_pos e6] at ht; subst ht; exact ev_ite_pos e6 hr
    · rw [if_neg e6] at ht
      refine ev_ite_neg e6 ?_
      by_cases e7 : x = 7
      · rw [if_pos e7] at ht; subst ht; exact ev_ite_pos e7 hr
      · rw [if_neg e7] at ht
        refine ev_ite_neg e7 ?_
        by_cases e8 : x = 8
        · rw [if_pos e8] at ht; subst ht; exact ev_ite_pos e8 hr
        · rw [if_neg e8] at ht; subst ht; exact ev_ite_neg e8 hr
  obtain ⟨t, ht⟩ : ∃ t : Bool, (if x = 6 then t = (x == 6) else if x = 7 then t = (x == 7) else if x = 8 then t = (x == 8) else t = (x == 9)) := by
    split
    · exact ⟨_, rfl⟩
    · split
      · exact ⟨_, rfl⟩
      · split
        · exact ⟨_, rfl⟩
        · exact ⟨_, rfl⟩
  obtain ⟨kind, a, b', c, i', h', hr, gd, cc⟩ := last t (by
    intro htt; subst htt
    split at ht
    · omega
    · split at ht
      · omega
      · split at ht
        · omega
        · have := beq_iff_eq.1 ht.symm; omega)
  exact ⟨kind, a, b', c, i', h', tail _ t hr ht, gd, cc⟩
def GoodE (e : S29) : Prop := Good e.f0 e.f1 e.f2 e.f3
theorem rdE (xs : List S29) (i : Nat) (h : i < xs.length) : rd_T29 xs (i : Int) = xs[i] := by
  unfold rd_T29
  rw [List.getD_eq_getElem?_getD, Int.toNat_natCast, List.getElem?_eq_getElem h]; rfl
theorem draw_events_loop (b : List Int) (d : Nat) : ∀ (out : List S29) (i ci h : Int), 0 ≤ i → i ≤ 9 → 9 - i = d → (out.length : Int) = i → (∀ e ∈ out, GoodE e) → Cur b ci →
    ∃ evs, Ev (fun k => spec_DrawEvents.l0 k out i b ci h) evs ∧ evs.length ≤ 9 ∧ ∀ e ∈ evs, GoodE e := by
  induction d with
  | zero =>
    intro out i ci h h0 h1 hd hl ho hc
    obtain ⟨x, i', h', g, g0, g1, g2⟩ := below_ev b ci h 9 hc (by omega) (by omega)
    exact ⟨out, Ev.step (fun k => spec_DrawEvents.l0.eq_2 out i b ci h k) (ev_bind_some g (ev_ite_neg (by simp only; rw [w64 (by omega) (by omega)]; omega) (Ev.now _))), by omega, ho⟩
  | succ d ih =>
    intro out i ci h h0 h1 hd hl ho hc
    obtain ⟨x, i', h', g, g0, g1, g2⟩ := below_ev b ci h 9 hc (by omega) (by omega)
    by_cases hx : i < 1 + x
    · obtain ⟨kind, a, b', c, i2, h2, k1, k2, k3⟩ := event_ev b i' h' g2
      obtain ⟨evs, e1, e2, e3⟩ := ih (out ++ [(⟨kind, a, b', c⟩ : S29)]) (i + 1) i2 h2 (by omega) (by omega) (by omega) (by simp; omega) (by
        intro e he
        rcases List.mem_append.1 he with he | he
        · exact ho e he
        · rw [List.mem_singleton.1 he]; exact k2) k3
      refine ⟨evs, Ev.step (fun k => spec_DrawEvents.l0.eq_2 out i b ci h k) (ev_bind_some g (ev_ite_pos (by simp only; rw [w64 (by omega) (by omega)]; omega) (Ev.bind k1 (ev_ite_pos (by omega) ?_)))), e2, e3⟩
      rw [w64 (by omega) (by omega)]; exact e1
    · exact ⟨out, Ev.step (fun k => spec_DrawEvents.l0.eq_2 out i b ci h k) (ev_bind_some g (ev_ite_neg (by simp only; rw [w64 (by omega) (by omega)]; omega) (Ev.now _))), by omega, ho⟩
/-- The lines of a script: its head, an empty one, and a text for each event. -/
def hdr : List Int := [35, 32, 97, 32, 115, 99, 114, 105, 112, 116]
def Lines (evs : List S29) (ts : List (List Int)) : Prop := ts.length = evs.length ∧ ∀ j (h : j < evs.length) (h' : j < ts.length), ts[j].length ≤ 38 ∧ ∃ ws, ts[j] = joinB 32 ws ∧ WordsOf evs[j].f0 evs[j].f1 evs[j].f2 evs[j].f3 ws
theorem words_range (kind a b c : Int) (h1 : 1 ≤ kind) (h9 : kind ≤ 9) (ws : List (List Int)) (h : WordsOf kind a b c ws) : ∀ x ∈ joinB 32 ws, x ≠ 10 := by
  intro x hx
  have hw := words_word kind a b c h1 h9 ws h
  clear h
  induction ws with
  | nil => exact absurd hx (by simp [joinB])
  | cons p r ih =>
    cases r with
    | nil => have := (hw p (by simp)).2 x hx; omega
    | cons q r =>
      simp only [joinB, List.mem_append, List.mem_cons] at hx
      rcases hx with hx | rfl | hx
      · have := (hw p (by simp)).2 x hx; omega
      · omega
      · exact ih hx (fun y hy => hw y (by simp at hy ⊢; exact Or.inr hy))
theorem len_cons (x : ByteArray) (l : List ByteArray) : (¬ (((x :: l).length : Nat) : Int) = 0) ∧ (0 : Int) < (((x :: l).length : Nat) : Int) := by
  rw [List.length_cons]; omega
theorem sz2 (s t : ByteArray) (n m : Nat) (h1 : s.size ≤ n) (h2 : t.size ≤ m) : (s ++ t).size ≤ n + m := Nat.le_trans (Nat.le_of_eq ByteArray.size_append) (Nat.add_le_add h1 h2)
theorem lines_size (s t : ByteArray) (j : Nat) (h1 : s.size ≤ 12 + 39 * j) (h2 : t.size ≤ 38) : ((s ++ t) ++ (⟨#[10]⟩ : ByteArray)).size ≤ 12 + 39 * (j + 1) := by
  have h := sz2 (s ++ t) (⟨#[10]⟩ : ByteArray) _ 1 (sz2 s t _ _ h1 h2) (Nat.le_refl 1)
  have e : 12 + 39 * j + 38 + 1 = 12 + 39 * (j + 1) := by clear h h1 h2; omega
  rw [e] at h; exact h
theorem lim_of {n : Nat} (m : Nat) (h : n ≤ m) (hm : m ≤ 9223372036854775806) : n + 1 ≤ 9223372036854775807 := by omega
theorem map_one (rs : List ByteArray) (a : List Int) (h : rs.map bytesOf = [a]) : ∃ r, rs = [r] ∧ bytesOf r = a := by
  cases rs with
  | nil => simp at h
  | cons x y =>
    cases y with
    | nil => exact ⟨x, rfl, by simpa using h⟩
    | cons z w => simp at h
theorem map_two (rs : List ByteArray) (a b : List Int) (t : List (List Int)) (h : rs.map bytesOf = a :: b :: t) : ∃ r0 r1 rt, rs = r0 :: r1 :: rt ∧ bytesOf r0 = a ∧ bytesOf r1 = b := by
  cases rs with
  | nil => simp at h
  | cons x y =>
    cases y with
    | nil => simp at h
    | cons z w =>
      simp only [List.map_cons, List.cons.injEq] at h
      exact ⟨x, z, w, rfl, h.1, h.2.1⟩
theorem tock_none (rs : List ByteArray) (hrs : rs.map bytesOf = [[116, 111, 99, 107]]) (d : Nat) : ∀ i : Int, 1 ≤ i → i ≤ 10 → 10 - i = d → Ev (fun k => impl_ReadEvent.l0 k rs i) (0, 0, 0, 0, false) := by
  obtain ⟨r0, rfl, hr0⟩ := map_one rs _ hrs
  induction d with
  | zero => intro i h1 h2 hd; exact Ev.step (fun k => impl_ReadEvent.l0.eq_2 _ i k) (ev_ite_neg (by omega) (Ev.now _))
  | succ d ih =>
    intro i h1 h2 hd
    refine Ev.step (fun k => impl_ReadEvent.l0.eq_2 _ i k) (ev_ite_pos (by omega) (ev_bind_some (wd_eq i) (ev_ite_pos (by simp) (ev_ite_neg ?_ ?_))))
    · intro he
      apply wd_notock i h1 (by omega)
      rw [toList_same.1 he]
      exact hr0
    · refine Ev.step (fun k => impl_ReadEvent.j2.eq_2 _ i true k) (ev_ite_pos rfl ?_)
      rw [w64 (by omega) (by omega)]; exact ih (i + 1) (by omega) (by omega) (by omega)
theorem rdOf_get (ls : List ByteArray) (i : Nat) (h : i < ls.length) : rdOf ByteArray.empty ls (i : Int) = ls[i] := by
  unfold rdOf
  rw [List.getD_eq_getElem?_getD, Int.toNat_natCast, List.getElem?_eq_getElem h]; rfl
theorem bt0 (s : ByteArray) (c : Int) (cs : List Int) (h : bytesOf s = c :: cs) : bt s 0 = c ∧ 0 < (s.size : Int) := by
  have := bo_size s
  rw [h] at this
  exact ⟨by rw [bt_bo, h]; rfl, by simp at this; omega⟩
/-- The lines with the events, from line 2 + j on. -/
theorem script_events (evs : List S29) (hn : evs.length ≤ 9) (hg : ∀ e ∈ evs, GoodE e) (ts : List (List Int)) (hL : Lines evs ts) (rs : List ByteArray) (last : List Int) (hrs : rs.map bytesOf = hdr :: [] :: (ts ++ [last])) (res : List S29 × Int × Bool)
    (hend : Ev (fun k => impl_ReadScript.l0 k evs rs rs (rs.length : Int) ((evs.length : Int) + 2)) res) (d : Nat) : ∀ j : Nat, j ≤ evs.length → evs.length - j = d → Ev (fun k => impl_ReadScript.l0 k (evs.take j) rs rs (rs.length : Int) ((j : Int) + 2)) res := by
  have hlen : rs.length = evs.length + 3 := by have := congrArg List.length hrs; simp at this; have := hL.1; omega
  induction d with
  | zero =>
    intro j h1 hd
    obtain rfl : j = evs.length := by omega
    rw [List.take_of_length_le (Nat.le_refl _)]; exact hend
  | succ d ih =>
    intro j h1 hd
    have hj : j < evs.length := by omega
    have hd1 : evs.length - (j + 1) = d := by omega
    have hi1 : (j : Int) + 2 < (rs.length : Int) := by omega
    have hi0 : (0 : Int) ≤ (j : Int) + 2 := by omega
    have hlt : (evs.take j).length < 4398046511104 := by have := List.length_take_le j evs; omega
    have hw : wrap64 ((j : Int) + 2 + 1) = ((j + 1 : Nat) : Int) + 2 := by rw [w64 (by omega) (by omega)]; omega
    have hjt : j < ts.length := by rw [hL.1]; exact hj
    obtain ⟨hsz, ws, hws, hW⟩ := hL.2 j hj hjt
    have ge := hg _ (List.getElem_mem hj)
    have hb : bytesOf (rs[j + 2]'(by omega)) = ts[j] := by
      have e : (rs.map bytesOf)[j + 2]? = some ts[j] := by rw [hrs]; simp [List.getElem?_append_left hjt, hjt]
      rw [List.getElem?_map, List.getElem?_eq_getElem (by omega), Option.map_some, Option.some.injEq] at e
      exact e
    have hrd : rdOf ByteArray.empty rs ((j : Int) + 2) = rs[j + 2]'(by omega) := by
      have := rdOf_get rs (j + 2) (by omega)
      rwa [show (((j + 2 : Nat)) : Int) = (j : Int) + 2 by omega] at this
    have hss : (rs[j + 2]'(by omega)).size ≤ 38 := by rw [← bo_size, hb]; exact hsz
    obtain ⟨g1, ps, g2, g3⟩ := read_line (rs[j + 2]'(by omega)) (by omega) _ _ _ _ ge ws hW (by rw [hb, hws]; exact line_join ws (by obtain ⟨qs, rfl, _, _⟩ := hW; simp) (words_word _ _ _ _ ge.1 ge.2.1 ws hW))
    obtain ⟨⟨f1, f2, _⟩, _⟩ := wd_ok _ ge.1 ge.2.1
    obtain ⟨qs, hq, _, _⟩ := hW
    rw [hq] at g3
    obtain ⟨p0, pt, rfl⟩ : ∃ p0 pt, ps = p0 :: pt := by
      cases ps with
      | nil => simp at g3
      | cons x y => exact ⟨x, y, rfl⟩
    obtain ⟨hp1, hp2⟩ := len_cons p0 pt
    simp only [List.map_cons, List.cons.injEq] at g3
    obtain ⟨c0, cs, hc⟩ : ∃ c0 cs, bytesOf p0 = c0 :: cs := by
      rw [g3.1]
      cases hh : bytesOf (wd evs[j].f0).1 with
      | nil => exact absurd hh f1
      | cons x y => exact ⟨x, y, rfl⟩
    have hb0 := bt0 p0 c0 cs hc
    have hne : c0 ≠ 35 := (f2 c0 (by rw [← g3.1, hc]; simp)).2.2
    have e35 : (bt (rdOf ByteArray.empty (p0 :: pt) 0) 0 == 35) = false := by
      show (bt p0 0 == 35) = false
      rw [hb0.1]; exact beq_eq_false_iff_ne.2 hne
    have hn' := ih (j + 1) hj hd1
    rw [List.take_add_one, List.getElem?_eq_getElem hj] at hn'
    refine Ev.step (fun k => impl_ReadScript.l0.eq_2 (evs.take j) rs rs (rs.length : Int) ((j : Int) + 2) k) (ev_ite_pos hi1 (ev_ite_pos hi0 (ev_ite_pos hi1 ?_)))
    rw [hrd]
    refine Ev.bind g2 (ev_ite_pos rfl (ev_ite_neg hp1 (ev_ite_pos hp2 (ev_ite_pos hb0.2 ?_))))
    simp only
    rw [e35]
    refine Ev.step (fun k => impl_ReadScript.j1.eq_2 (evs.take j) rs ((j : Int) + 2) (rs[j + 2]'(by omega)) rs (rs.length : Int) ((j : Int) + 2) false k) (ev_ite_neg (by decide) (Ev.bind g1 (ev_ite_pos rfl (ev_ite_pos hlt ?_))))
    rw [hw]; exact hn'
theorem hdr_line : Line hdr [[35], [97], [115, 99, 114, 105, 112, 116]] :=
  Line.word (p := [35]) ⟨by simp, by simp⟩ (Line.word (p := [97]) ⟨by simp, by simp⟩ (Line.last ⟨by simp, by simp⟩))
theorem script_start (rs : List ByteArray) (tail : List (List Int)) (hrs : rs.map bytesOf = hdr :: [] :: tail) (res : List S29 × Int × Bool) (hend : Ev (fun k => impl_ReadScript.l0 k ([] : List S29) rs rs (rs.length : Int) 2) res) (hl : rs.length ≤ 100) : Ev (fun k => impl_ReadScript.l0 k ([] : List S29) rs rs (rs.length : Int) 0) res := by
  obtain ⟨r0, r1, rt, rfl, e0, e1⟩ := map_two rs _ _ _ hrs
  have s0 : r0.size = 10 := by rw [← bo_size, e0]; rfl
  have s1 : r1.size = 0 := by rw [← bo_size, e1]; rfl
  obtain ⟨ps, g1, g2⟩ := parts_text r0 (by omega) _ (by rw [e0]; exact hdr_line) (by simp)
  obtain ⟨qs, k1, k2⟩ := parts_text r1 (by omega) _ (by rw [e1]; exact Line.nil) (by simp)
  obtain ⟨p0, pt, rfl⟩ : ∃ p0 pt, ps = p0 :: pt := by
    cases ps with
    | nil => simp at g2
    | cons x y => exact ⟨x, y, rfl⟩
  simp only [List.map_cons, List.cons.injEq] at g2
  obtain rfl : qs = [] := by simpa using k2
  have hb0 := bt0 p0 35 [] g2.1
  have hll : (((r0 :: r1 :: rt).length : Nat) : Int) = (rt.length : Int) + 2 := by simp; omega
  refine Ev.step (fun k => impl_ReadScript.l0.eq_2 _ _ _ _ 0 k) (ev_ite_pos (by omega) (ev_ite_pos (by omega) (ev_ite_pos (by omega) (Ev.bind (show Ev (fun k => impl_PartsOf.f k (rdOf ByteArray.empty (r0 :: r1 :: rt) 0)) _ from g1) (ev_ite_pos rfl (ev_ite_neg (by rw [List.length_cons]; omega) (ev_ite_pos (by rw [List.length_cons]; omega) (ev_ite_pos hb0.2 ?_))))))))
  have e35 : (bt (rdOf ByteArray.empty (p0 :: pt) 0) 0 == 35) = true := by
    show (bt p0 0 == 35) = true
    rw [hb0.1]; rfl
  simp only
  rw [e35]
  refine Ev.step (fun k => impl_ReadScript.j1.eq_2 _ _ 0 _ _ _ 0 true k) (ev_ite_pos rfl ?_)
  rw [show wrap64 (0 + 1) = 1 from w64 (by omega) (by omega)]
  refine Ev.step (fun k => impl_ReadScript.l0.eq_2 _ _ _ _ 1 k) (ev_ite_pos (by omega) (ev_ite_pos (by omega) (ev_ite_pos (by omega) (Ev.bind (show Ev (fun k => impl_PartsOf.f k (rdOf ByteArray.empty (r0 :: r1 :: rt) 1)) _ from k1) (ev_ite_pos rfl (ev_ite_pos (by simp) ?_))))))
  refine Ev.step (fun k => impl_ReadScript.j1.eq_2 _ _ 1 _ _ _ 1 true k) (ev_ite_pos rfl ?_)
  rw [show wrap64 (1 + 1) = 2 from w64 (by omega) (by omega)]
  exact hend
theorem lines_no10 (evs : List S29) (hg : ∀ e ∈ evs, GoodE e) (ts : List (List Int)) (hL : Lines evs ts) (last : List Int) (hlast : ∀ x ∈ last, x ≠ 10) : ∀ p ∈ hdr :: [] :: (ts ++ [last]), ∀ c ∈ p, c ≠ 10 := by
  intro p hp c hc
  simp only [List.mem_cons, List.mem_append, List.mem_nil_iff, or_false] at hp
  rcases hp with rfl | rfl | hp | rfl
  · simp [hdr] at hc; omega
  · exact absurd hc (by simp)
  · obtain ⟨j, hj, rfl⟩ := List.getElem_of_mem hp
    have hj' : j < evs.length := by rw [← hL.1]; exact hj
    obtain ⟨_, ws, hws, hW⟩ := hL.2 j hj' hj
    have ge := hg _ (List.getElem_mem hj')
    rw [hws] at hc
    exact words_range _ _ _ _ ge.1 ge.2.1 ws hW c hc
  · exact hlast c hc
theorem script_whole (evs : List S29) (hn : evs.length ≤ 9) (hg : ∀ e ∈ evs, GoodE e) (ts : List (List Int)) (hL : Lines evs ts) (s : ByteArray) (hs : bytesOf s = joinB 10 (hdr :: [] :: (ts ++ [[]]))) (hz : s.size ≤ 600) : Ev (fun k => impl_ReadScript.f k s) (evs, (evs.length : Int) + 3, true) := by
  obtain ⟨rs, g1, g2⟩ := cut_text s (by omega) 10 _ (by simp) hs (lines_no10 evs hg ts hL [] (by simp)) (by have := hL.1; simp; omega)
  have hlen : rs.length = evs.length + 3 := by have := congrArg List.length g2; simp at this; have := hL.1; omega
  refine ev_bind_some rfl (ev_ite_neg (by omega) (Ev.bind g1 ?_))
  refine script_start rs _ g2 _ ?_ (by omega)
  refine script_events evs hn hg ts hL rs [] g2 _ ?_ evs.length 0 (Nat.zero_le _) (by omega)
  have hb : bytesOf (rs[evs.length + 2]'(by omega)) = [] := by
    have e : (rs.map bytesOf)[evs.length + 2]? = some [] := by rw [g2, ← hL.1]; simp
    rw [List.getElem?_map, List.getElem?_eq_getElem (by omega), Option.map_some, Option.some.injEq] at e
    exact e
  have hrd : rdOf ByteArray.empty rs ((evs.length : Int) + 2) = rs[evs.length + 2]'(by omega) := by
    have := rdOf_get rs (evs.length + 2) (by omega)
    rwa [show (((evs.length + 2 : Nat)) : Int) = (evs.length : Int) + 2 by omega] at this
  obtain ⟨qs, k1, k2⟩ := parts_text (rs[evs.length + 2]'(by omega)) (by rw [← bo_size, hb]; simp) _ (by rw [hb]; exact Line.nil) (by simp)
  obtain rfl : qs = [] := by simpa using k2
  have hw : wrap64 ((evs.length : Int) + 2 + 1) = (evs.length : Int) + 3 := by rw [w64 (by omega) (by omega)]; omega
  refine Ev.step (fun k => impl_ReadScript.l0.eq_2 _ _ _ _ _ k) (ev_ite_pos (by omega) (ev_ite_pos (by omega) (ev_ite_pos (by omega) ?_)))
  rw [hrd]
  refine Ev.bind k1 (ev_ite_pos rfl (ev_ite_pos (by simp) ?_))
  refine Ev.step (fun k => impl_ReadScript.j1.eq_2 _ _ _ _ _ _ _ true k) (ev_ite_pos rfl ?_)
  rw [hw]
  refine Ev.step (fun k => impl_ReadScript.l0.eq_2 _ _ _ _ _ k) (ev_ite_neg (by omega) (ev_ite_neg (by omega) ?_))
  rw [show ((rs.length : Nat) : Int) = (evs.length : Int) + 3 by omega]
  exact Ev.now _
theorem script_tock (evs : List S29) (hn : evs.length ≤ 9) (hg : ∀ e ∈ evs, GoodE e) (ts : List (List Int)) (hL : Lines evs ts) (s : ByteArray) (hs : bytesOf s = joinB 10 (hdr :: [] :: (ts ++ [[116, 111, 99, 107]]))) (hz : s.size ≤ 600) : Ev (fun k => impl_ReadScript.f k s) (([] : List S29), (evs.length : Int) + 3, false) := by
  obtain ⟨rs, g1, g2⟩ := cut_text s (by omega) 10 _ (by simp) hs (lines_no10 evs hg ts hL [116, 111, 99, 107] (by simp)) (by have := hL.1; simp; omega)
  have hlen : rs.length = evs.length + 3 := by have := congrArg List.length g2; simp at this; have := hL.1; omega
  refine ev_bind_some rfl (ev_ite_neg (by omega) (Ev.bind g1 ?_))
  refine script_start rs _ g2 _ ?_ (by omega)
  refine script_events evs hn hg ts hL rs [116, 111, 99, 107] g2 _ ?_ evs.length 0 (Nat.zero_le _) (by omega)
  have hb : bytesOf (rs[evs.length + 2]'(by omega)) = [116, 111, 99, 107] := by
    have e : (rs.map bytesOf)[evs.length + 2]? = some [116, 111, 99, 107] := by rw [g2, ← hL.1]; simp
    rw [List.getElem?_map, List.getElem?_eq_getElem (by omega), Option.map_some, Option.some.injEq] at e
    exact e
  have hrd : rdOf ByteArray.empty rs ((evs.length : Int) + 2) = rs[evs.length + 2]'(by omega) := by
    have := rdOf_get rs (evs.length + 2) (by omega)
    rwa [show (((evs.length + 2 : Nat)) : Int) = (evs.length : Int) + 2 by omega] at this
  obtain ⟨qs, k1, k2⟩ := parts_text (rs[evs.length + 2]'(by omega)) (by rw [← bo_size, hb]; simp) _ (by rw [hb]; exact Line.last ⟨by simp, by simp⟩) (by simp)
  have k3 := tock_none qs k2 9 1 (by omega) (by omega) (by omega)
  obtain ⟨q0, rfl, hq0⟩ := map_one qs _ k2
  have hq := bt0 q0 116 [111, 99, 107] hq0
  have hre : Ev (fun k => impl_ReadEvent.f k (rs[evs.length + 2]'(by omega))) (0, 0, 0, 0, false) := by
    refine Ev.bind k1 (ev_ite_pos rfl ?_)
    exact Ev.step (fun k => impl_ReadEvent.j0.eq_2 [q0] false k) (ev_ite_neg (by decide) k3)
  have hw : wrap64 ((evs.length : Int) + 2 + 1) = (evs.length : Int) + 3 := by rw [w64 (by omega) (by omega)]; omega
  refine Ev.step (fun k => impl_ReadScript.l0.eq_2 _ _ _ _ _ k) (ev_ite_pos (by omega) (ev_ite_pos (by omega) (ev_ite_pos (by omega) ?_)))
  rw [hrd]
  refine Ev.bind k1 (ev_ite_pos rfl (ev_ite_neg (by simp) (ev_ite_pos (by simp) (ev_ite_pos hq.2 ?_))))
  have e35 : (bt (rdOf ByteArray.empty [q0] 0) 0 == 35) = false := by
    show (bt q0 0 == 35) = false
    rw [hq.1]; rfl
  simp only
  rw [e35]
  refine Ev.step (fun k => impl_ReadScript.j1.eq_2 _ _ _ _ _ _ _ false k) (ev_ite_neg (by decide) (Ev.bind hre (ev_ite_neg (fun h => Bool.noConfusion h) ?_)))
  rw [hw]; exact Ev.now _
theorem sameevents_loop (xs : List S29) (hx : xs.length ≤ 1000) (d : Nat) : ∀ i : Int, 0 ≤ i → i ≤ (xs.length : Int) → (xs.length : Int) - i = d → Ev (fun k => laws_sameEvents.l0 k xs xs i) true := by
  induction d with
  | zero => intro i h0 h1 hd; exact Ev.step (fun k => laws_sameEvents.l0.eq_2 xs xs i k) (ev_ite_neg (by omega) (Ev.now _))
  | succ d ih =>
    intro i h0 h1 hd
    refine Ev.step (fun k => laws_sameEvents.l0.eq_2 xs xs i k) (ev_ite_pos (by omega) (ev_ite_pos h0 (ev_ite_pos (by omega) (ev_ite_neg (by simp) ?_))))
    rw [w64 (by omega) (by omega)]; exact ih (i + 1) (by omega) (by omega) (by omega)
theorem join_next (ts : List (List Int)) (s t : ByteArray) (hs : bytesOf s = joinB 10 (hdr :: [] :: (ts ++ [[]]))) : bytesOf ((s ++ t) ++ (⟨#[10]⟩ : ByteArray)) = joinB 10 (hdr :: [] :: ((ts ++ [bytesOf t]) ++ [[]])) := by
  have b10 : bytesOf (⟨#[10]⟩ : ByteArray) = [10] := rfl
  have e1 : hdr :: [] :: (ts ++ [[]]) = (hdr :: [] :: ts) ++ [[]] := by simp
  have e2 : hdr :: [] :: ((ts ++ [bytesOf t]) ++ [[]]) = ((hdr :: [] :: ts) ++ [bytesOf t]) ++ [[]] := by simp
  rw [bo_append, bo_append, b10, hs, e1, e2, joinB_snoc _ _ _ (by simp), joinB_snoc _ _ _ (by simp), joinB_snoc _ _ _ (by simp)]
  simp
theorem lines_snoc (evs : List S29) (j : Nat) (hj : j < evs.length) (ts : List (List Int)) (hL : Lines (evs.take j) ts) (p : List Int) (hp : p.length ≤ 38 ∧ ∃ ws, p = joinB 32 ws ∧ WordsOf evs[j].f0 evs[j].f1 evs[j].f2 evs[j].f3 ws) : Lines (evs.take (j + 1)) (ts ++ [p]) := by
  have hl : ts.length = j := by rw [hL.1, List.length_take]; exact Nat.min_eq_left (Nat.le_of_lt hj)
  refine ⟨by rw [List.length_append, List.length_singleton, hl, List.length_take]; exact (Nat.min_eq_left hj).symm, fun i h h' => ?_⟩
  by_cases hi : i < j
  · obtain ⟨z1, z2⟩ := hL.2 i (by rw [List.length_take]; exact Nat.lt_min.2 ⟨hi, Nat.lt_trans hi hj⟩) (by rw [hl]; exact hi)
    rw [List.getElem_append_left (by rw [hl]; exact hi)]
    simp only [List.getElem_take] at z1 z2 ⊢
    exact ⟨z1, z2⟩
  · have hij : i = j := by
      rw [List.length_append, List.length_singleton, hl] at h'
      omega
    subst hij
    rw [List.getElem_append_right (by rw [hl]; exact Nat.le_refl _)]
    simp only [List.getElem_take, List.getElem_singleton]
    exact hp
theorem told_loop (evs : List S29) (hn : evs.length ≤ 9) (hg : ∀ e ∈ evs, GoodE e) (d : Nat) : ∀ (j : Nat) (ts : List (List Int)) (s : ByteArray), j ≤ evs.length → evs.length - j = d → bytesOf s = joinB 10 (hdr :: [] :: (ts ++ [[]])) → Lines (evs.take j) ts → s.size ≤ 12 + 39 * j →
    Ev (fun k => laws_FnEventsTold.l0 k evs s (j : Int)) true := by
  induction d with
  | zero =>
    intro j ts s h1 hd hs hL hz
    obtain rfl : j = evs.length := by omega
    rw [List.take_of_length_le (Nat.le_refl _)] at hL
    have hz9 : s.size ≤ 363 := by omega
    have lim5 : s.size + 4 ≤ 9223372036854775807 := by omega
    have hnl : ¬ ((evs.length : Nat) : Int) < (evs.length : Int) := by omega
    have r1 := script_whole evs hn hg ts hL s hs (by omega)
    have ht : (⟨#[116, 111, 99, 107]⟩ : ByteArray).size = 4 := rfl
    have r2 := script_tock evs hn hg ts hL (s ++ (⟨#[116, 111, 99, 107]⟩ : ByteArray)) (by
      have b4 : bytesOf (⟨#[116, 111, 99, 107]⟩ : ByteArray) = [116, 111, 99, 107] := rfl
      rw [bo_append, hs, b4]
      have e1 : hdr :: [] :: (ts ++ [[]]) = (hdr :: [] :: ts) ++ [[]] := by simp
      have e2 : hdr :: [] :: (ts ++ [[116, 111, 99, 107]]) = (hdr :: [] :: ts) ++ [[116, 111, 99, 107]] := by simp
      rw [e1, e2, joinB_snoc _ _ _ (by simp), joinB_snoc _ _ _ (by simp)]; simp) (Nat.le_trans (sz2 s (⟨#[116, 111, 99, 107]⟩ : ByteArray) 363 4 hz9 (Nat.le_refl 4)) (by decide))
    have hw : wrap64 ((evs.length : Int) + 3) = (evs.length : Int) + 3 := w64 (by omega) (by omega)
    have se : Ev (fun k => laws_sameEvents.f k evs evs) true := Ev.congr (fun k => if_pos rfl) (sameevents_loop evs (by omega) evs.length 0 (by omega) (by omega) (by omega))
    refine Ev.step (fun k => laws_FnEventsTold.l0.eq_2 evs s _ k) (ev_ite_neg hnl (Ev.bind r1 (ev_ite_pos lim5 (Ev.bind r2 (ev_ite_pos rfl (ev_ite_pos hw.symm (Ev.bind se (ev_ite_pos rfl (ev_ite_neg (fun h => Bool.noConfusion h) ?_)))))))))
    simp only
    rw [hw, beq_self_eq_true]; exact Ev.now _
  | succ d ih =>
    intro j ts s h1 hd hs hL hz
    have hj : j < evs.length := by omega
    have hd1 : evs.length - (j + 1) = d := by omega
    have ge := hg _ (List.getElem_mem hj)
    have hrd := rdE evs j hj
    obtain ⟨t, ws, q1, q2, q3, q4⟩ := event_text _ _ _ _ ge
    have c2 : (⟨#[32, 32]⟩ : ByteArray).size = 2 := rfl
    have c1 : (⟨#[32]⟩ : ByteArray).size = 1 := rfl
    have c10 : (⟨#[10]⟩ : ByteArray).size = 1 := rfl
    have hz9 : s.size ≤ 363 := by omega
    have lim1 : 2 + t.size ≤ 9223372036854775807 := by omega
    have lim2 : ((⟨#[32, 32]⟩ : ByteArray) ++ t).size + 1 ≤ 9223372036854775807 := lim_of _ (sz2 (⟨#[32, 32]⟩ : ByteArray) t 2 38 (Nat.le_refl 2) q4) (by decide)
    have lim3 : s.size + t.size ≤ 9223372036854775807 := by omega
    have lim4 : (s ++ t).size + 1 ≤ 9223372036854775807 := lim_of _ (sz2 s t 363 38 hz9 q4) (by decide)
    have hji : (j : Int) < (evs.length : Int) := by omega
    have hj0 : (0 : Int) ≤ (j : Int) := by omega
    have hw : wrap64 ((j : Int) + 1) = ((j + 1 : Nat) : Int) := by rw [w64 (by omega) (by omega)]; omega
    have hsn := lines_size s t j hz q4
    have b2 : bytesOf (⟨#[32, 32]⟩ : ByteArray) = [32, 32] := rfl
    have b1 : bytesOf (⟨#[32]⟩ : ByteArray) = [32] := rfl
    have b10 : bytesOf (⟨#[10]⟩ : ByteArray) = [10] := rfl
    have hsz2 : (((⟨#[32, 32]⟩ : ByteArray) ++ t) ++ (⟨#[32]⟩ : ByteArray)).size ≤ 600 := Nat.le_trans (sz2 _ (⟨#[32]⟩ : ByteArray) _ 1 (sz2 (⟨#[32, 32]⟩ : ByteArray) t 2 38 (Nat.le_refl 2) q4) (Nat.le_refl 1)) (by decide)
    have hne : ws ≠ [] := by obtain ⟨qs, rfl, _, _⟩ := q3; simp
    obtain ⟨re, _⟩ := read_line (((⟨#[32, 32]⟩ : ByteArray) ++ t) ++ (⟨#[32]⟩ : ByteArray)) hsz2 _ _ _ _ ge ws q3 (by
      rw [bo_append, bo_append, b2, b1, q2]
      exact Line.blank (Line.blank (line_join_blank ws hne (words_word _ _ _ _ ge.1 ge.2.1 ws q3))))
    have hnext := ih (j + 1) (ts ++ [bytesOf t]) ((s ++ t) ++ (⟨#[10]⟩ : ByteArray)) hj hd1 (join_next ts s t hs) (lines_snoc evs j hj ts hL (bytesOf t) ⟨by rw [bo_size]; exact q4, ws, q2, q3⟩) hsn
    refine Ev.step (fun k => laws_FnEventsTold.l0.eq_2 evs s (j : Int) k) (ev_ite_pos hji (ev_ite_pos hj0 ?_))
    rw [hrd, hw]
    exact Ev.bind q1 (ev_ite_pos lim1 (ev_ite_pos lim2 (Ev.bind re (ev_ite_pos rfl (ev_ite_pos rfl (ev_ite_neg (by simp) (ev_ite_pos lim3 (ev_ite_pos lim4 hnext))))))))
theorem FnEventsTold : laws_FnEventsTold.Pure := by
  intro code hlen hlen2 hwf
  apply Ev.rounds
  refine ev_bind_some (a := decide ((code.length : Int) > 1048576)) rfl ?_
  by_cases hbig : (code.length : Int) > 1048576
  · rw [decide_eq_true hbig]; exact ev_ite_pos rfl (Ev.now _)
  rw [decide_eq_false hbig]
  refine ev_ite_neg (by decide) ?_
  obtain ⟨h0, n0⟩ := new_ev code (by omega)
  obtain ⟨evs, e1, e2, e3⟩ := draw_events_loop code 9 [] 0 0 h0 (by omega) (by omega) (by omega) rfl (by simp) ⟨by omega, by omega, by omega⟩
  have hd : Ev (fun k => spec_DrawEvents.f k code) evs := Ev.bind n0 e1
  refine Ev.bind hd ?_
  exact told_loop evs e2 e3 evs.length 0 [] _ (Nat.zero_le _) (by omega) rfl ⟨by simp, fun j h => absurd h (by simp)⟩ (by decide)
end Go.Proofs.Ytjmhhgnknjfnlaa.Pure
