/- The program's ReadLayout and the reference's ReadLayout give the same layout and the same verdict at every text, and what a call gives is its own. No condition beyond the statement's own. -/
import Derived.Test.YtjmhhgnknjfnlaaZFnExactReadLayouty3
namespace Go.Proofs.Ytjmhhgnknjfnlaa.Pure
open Go.RowKit Go.Proofs.Ytjmhhgnknjfnlaa.PFnExactReadLayout Go.Proofs.YtjmhhgnknjfnlaaW.PrintWords Go.Proofs.YtjmhhgnknjfnlaaW.PrintLast
set_option linter.unusedVariables false
set_option linter.unusedSimpArgs false
theorem w64 {x : Int} (h : -9223372036854775808 ≤ x) (h' : x ≤ 9223372036854775807) : wrap64 x = x := by unfold wrap64; omega
theorem ev_ite_pos {α : Type} {c : Prop} [Decidable c] {g f : Nat → Option α} {r : α} (h : c) (k : Ev g r) : Ev (fun n => if c then g n else f n) r := by simpa only [if_pos h] using k
theorem ev_ite_neg {α : Type} {c : Prop} [Decidable c] {g f : Nat → Option α} {r : α} (h : ¬ c) (k : Ev f r) : Ev (fun n => if c then g n else f n) r := by simpa only [if_neg h] using k
theorem ev_now' {α : Type} {g : Nat → Option α} {r : α} (h : ∀ k, g k = some r) : Ev g r := ⟨0, fun k _ => h k⟩
theorem ev_bind_some {α β : Type} {x : Option α} {a : α} {f : Nat → α → Option β} {r : β} (h : x = some a) (k : Ev (fun n => f n a) r) : Ev (fun n => x.bind (f n)) r := by subst h; simpa only [Option.bind_some] using k
theorem bt_bounds (s : ByteArray) (i : Int) : 0 ≤ bt s i ∧ bt s i ≤ 255 := bt_range s i
theorem size_ext (s : ByteArray) (a b : Nat) (h : a ≤ b) (hb : b ≤ s.size) : (s.extract a b).size = b - a := by rw [ByteArray.size_extract]; omega
theorem within_eq (a b c : Int) : impl_within.f a b c = some (decide (b ≤ a ∧ a ≤ c)) := by
  unfold impl_within.f
  by_cases h : a ≥ b
  · rw [if_pos h]; simp [show b ≤ a from h]
  · rw [if_neg h]; simp [show ¬ b ≤ a from h]
theorem tmod_nn {x : Int} (h : 0 ≤ x) : Int.tmod x 10 = x % 10 := Int.tmod_eq_emod_of_nonneg h
theorem tdiv_nn {x : Int} (h : 0 ≤ x) : Int.tdiv x 10 = x / 10 := Int.tdiv_eq_ediv_of_nonneg h
theorem figure_at : ∀ d : Nat, d < 10 → (⟨#[48, 49, 50, 51, 52, 53, 54, 55, 56, 57, 97, 98, 99, 100, 101, 102]⟩ : ByteArray).extract d (d + 1) = strOfNums [(48 + (d : Int))] := by decide
/-- One figure put ahead: both programs put the same byte. -/
theorem figure_same (m : Int) (h0 : 0 ≤ m) (h1 : m < 10) : (⟨#[48, 49, 50, 51, 52, 53, 54, 55, 56, 57, 97, 98, 99, 100, 101, 102]⟩ : ByteArray).extract (m : Int).toNat ((m + 1) : Int).toNat = strOfNums [(48 + m)] := by
  have h := figure_at m.toNat (by omega)
  rw [show ((m + 1) : Int).toNat = m.toNat + 1 by omega]
  rw [h]; congr 2; omega
theorem figure_size : ∀ d : Nat, d < 10 → (strOfNums [(48 + (d : Int))]).size = 1 := by decide
theorem decimal_loop (n : Int) (hn : 0 ≤ n) (d : Nat) : ∀ (x : Int) (t : ByteArray), 0 ≤ x → x ≤ d → x ≤ 4000000000000000000 → (t.size : Int) + x ≤ 4000000000000000000 →
    ∃ r, Ev (fun k => impl_Decimal.l0 k n t x) r ∧ Ev (fun k => spec_Decimal.l0 k x (decide (n < 0)) t) r ∧ (r.size : Int) ≤ t.size + x := by
  induction d with
  | zero =>
    intro x t h0 hd hm hs
    obtain rfl : x = 0 := by omega
    refine ⟨t, ?_, ?_, by omega⟩
    · exact Ev.step (fun k => impl_Decimal.l0.eq_2 n t 0 k) (ev_ite_pos rfl (ev_ite_neg (by omega) (Ev.now _)))
    · exact Ev.step (fun k => spec_Decimal.l0.eq_2 0 _ t k) (ev_ite_pos rfl (ev_ite_neg (by simp; omega) (Ev.now _)))
  | succ d ih =>
    intro x t h0 hd hm hs
    by_cases hx : x = 0
    · subst hx
      refine ⟨t, ?_, ?_, by omega⟩
      · exact Ev.step (fun k => impl_Decimal.l0.eq_2 n t 0 k) (ev_ite_pos rfl (ev_ite_neg (by omega) (Ev.now _)))
      · exact Ev.step (fun k => spec_Decimal.l0.eq_2 0 _ t k) (ev_ite_pos rfl (ev_ite_neg (by simp; omega) (Ev.now _)))
    · have hm1 : mx (Int.tmod x 10) (wrap64 (-(Int.tmod x 10))) = x % 10 := by
        rw [tmod_nn h0, w64 (by omega) (by omega)]; unfold mx; split <;> omega
      have hb : 0 ≤ x % 10 ∧ x % 10 < 10 := by omega
      have hw1 : wrap64 (x % 10 + 1) = x % 10 + 1 := w64 (by omega) (by omega)
      have hw2 : wrap64 (Int.tdiv x 10) = x / 10 := by rw [tdiv_nn h0]; exact w64 (by omega) (by omega)
      have hfs : (strOfNums [(48 + x % 10)]).size = 1 := by
        have h := figure_size (x % 10).toNat (by omega)
        rw [show (((x % 10).toNat : Nat) : Int) = x % 10 by omega] at h; exact h
      have hsz : (strOfNums [(48 + x % 10)] ++ t).size = 1 + t.size := by rw [ByteArray.size_append, hfs]
      obtain ⟨r, h1, h2, h3⟩ := ih (x / 10) (strOfNums [(48 + x % 10)] ++ t) (by omega) (by omega) (by omega) (by rw [hsz]; omega)
      refine ⟨r, ?_, ?_, by rw [hsz] at h3; omega⟩
      · refine Ev.step (fun k => impl_Decimal.l0.eq_2 n t x k) (ev_ite_neg hx ?_)
        rw [hm1, hw1, figure_same _ hb.1 hb.2, hw2]
        exact ev_ite_pos hb.1 (ev_ite_pos (by omega) (ev_ite_pos (by omega) (ev_ite_pos (by rw [hfs]; omega) h1)))
      · refine Ev.step (fun k => spec_Decimal.l0.eq_2 x _ t k) (ev_ite_neg hx (ev_ite_neg (by rw [tmod_nn h0]; omega) ?_))
        rw [tmod_nn h0, hw2]
        refine ev_bind_some (a := 48 + x % 10) ?_ (ev_bind_some rfl (ev_ite_pos (by rw [hfs]; omega) h2))
        unfold spec_l01Figure.f
        rw [if_pos (by omega), w64 (by omega) (by omega)]; congr 1; omega
/-- What both programs write for a number that isn't negative. -/
theorem decimal_same (n : Int) (h : 0 ≤ n) (h1 : n ≤ 4000000000000000000) : ∃ r, Ev (fun k => impl_Decimal.f k n) r ∧ Ev (fun k => spec_Decimal.f k n) r ∧ (r.size : Int) ≤ n + 1 := by
  by_cases h0 : n = 0
  · subst h0
    exact ⟨⟨#[48]⟩, ev_now' fun k => by unfold impl_Decimal.f; rw [if_pos rfl], ev_now' fun k => by unfold spec_Decimal.f; rw [if_pos rfl], by decide⟩
  · obtain ⟨r, h1, h2, h3⟩ := decimal_loop n h n.toNat n ⟨#[]⟩ h (by omega) h1 (by rw [show (⟨#[]⟩ : ByteArray).size = 0 from rfl]; omega)
    refine ⟨r, Ev.congr (fun k => ?_) h1, Ev.congr (fun k => ?_) h2, by rw [show (⟨#[]⟩ : ByteArray).size = 0 from rfl] at h3; omega⟩
    · unfold impl_Decimal.f; rw [if_neg h0]
    · unfold spec_Decimal.f; rw [if_neg h0]
theorem p10 (i : Int) (h : i ≤ 10) : (10 : Int) ^ i.toNat ≤ 10000000000 := by
  have h1 : 10 ^ i.toNat ≤ 10 ^ 10 := Nat.pow_le_pow_right (by omega) (by omega)
  have h2 : (((10 ^ i.toNat : Nat)) : Int) ≤ ((10 ^ 10 : Nat) : Int) := Int.ofNat_le.2 h1
  rw [Int.natCast_pow] at h2
  exact h2
theorem readdecimal_loop (s : ByteArray) (hs : s.size ≤ 10) (d : Nat) : ∀ (n i : Int), 0 ≤ i → i ≤ s.size → (s.size : Int) - i = d → 0 ≤ n → n < 10 ^ (i.toNat) →
    ∃ r, Ev (fun k => impl_ReadDecimal.l0 k s n i) r ∧ Ev (fun k => spec_ReadDecimal.l0 k s n i) r ∧ (r.2 = false → r.1 = 0) ∧ 0 ≤ r.1 ∧ r.1 ≤ 1000000000 := by
  induction d with
  | zero =>
    intro n i h0 h1 hd hn hn1
    have hlt : ¬ i < (s.size : Int) := by omega
    have hp := p10 i (by omega)
    by_cases hbig : n > 1000000000
    · refine ⟨(0, false), ?_, ?_, by simp, by simp, by simp⟩
      · exact Ev.step (fun k => impl_ReadDecimal.l0.eq_2 s n i k) (ev_ite_neg hlt (ev_ite_pos hbig (Ev.now _)))
      · exact Ev.step (fun k => spec_ReadDecimal.l0.eq_2 s n i k) (ev_ite_neg hlt (ev_ite_pos hbig (Ev.now _)))
    · obtain ⟨t, h1, h2, _⟩ := decimal_same n hn (by omega)
      by_cases ht : t.toList = s.toList
      · refine ⟨(n, true), ?_, ?_, by simp, hn, by simp only; omega⟩
        · exact Ev.step (fun k => impl_ReadDecimal.l0.eq_2 s n i k) (ev_ite_neg hlt (ev_ite_neg hbig (Ev.bind h1 (ev_ite_pos ht (Ev.now _)))))
        · exact Ev.step (fun k => spec_ReadDecimal.l0.eq_2 s n i k) (ev_ite_neg hlt (ev_ite_neg hbig (Ev.bind h2 (ev_ite_pos ht (Ev.now _)))))
      · refine ⟨(0, false), ?_, ?_, by simp, by simp, by simp⟩
        · exact Ev.step (fun k => impl_ReadDecimal.l0.eq_2 s n i k) (ev_ite_neg hlt (ev_ite_neg hbig (Ev.bind h1 (ev_ite_neg ht (Ev.now _)))))
        · exact Ev.step (fun k => spec_ReadDecimal.l0.eq_2 s n i k) (ev_ite_neg hlt (ev_ite_neg hbig (Ev.bind h2 (ev_ite_neg ht (Ev.now _)))))
  | succ d ih =>
    intro n i h0 h1 hd hn hn1
    have hlt : i < (s.size : Int) := by omega
    have hb := bt_bounds s i
    have hp := p10 i (by omega)
    have hw : wrap64 (i + 1) = i + 1 := w64 (by omega) (by omega)
    by_cases hlo : bt s i < 48
    · refine ⟨(0, false), ?_, ?_, by simp, by simp, by simp⟩
      · exact Ev.step (fun k => impl_ReadDecimal.l0.eq_2 s n i k) (ev_ite_pos hlt (ev_ite_pos h0 (ev_ite_pos hlo (Ev.now _))))
      · exact Ev.step (fun k => spec_ReadDecimal.l0.eq_2 s n i k) (ev_ite_pos hlt (ev_ite_pos h0 (ev_ite_pos hlo (Ev.now _))))
    · by_cases hhi : bt s i > 57
      · refine ⟨(0, false), ?_, ?_, by simp, by simp, by simp⟩
        · exact Ev.step (fun k => impl_ReadDecimal.l0.eq_2 s n i k) (ev_ite_pos hlt (ev_ite_pos h0 (ev_ite_neg hlo (ev_ite_pos hhi (Ev.now _)))))
        · exact Ev.step (fun k => spec_ReadDecimal.l0.eq_2 s n i k) (ev_ite_pos hlt (ev_ite_pos h0 (ev_ite_neg hlo (ev_ite_pos hhi (Ev.now _)))))
      · have e1 : wrap64 (10 * n) = 10 * n := w64 (by omega) (by omega)
        have e2 : (bt s i - 48) % 256 = bt s i - 48 := by omega
        have e3 : wrap64 (10 * n + (bt s i - 48)) = 10 * n + (bt s i - 48) := w64 (by omega) (by omega)
        have e4 : wrap64 (bt s i) = bt s i := w64 (by omega) (by omega)
        have e5 : wrap64 (10 * n + bt s i) = 10 * n + bt s i := w64 (by omega) (by omega)
        have e6 : wrap64 (10 * n + bt s i - 48) = 10 * n + (bt s i - 48) := by rw [w64 (by omega) (by omega)]; omega
        have hpow : (10 : Int) ^ (i + 1).toNat = 10 * 10 ^ i.toNat := by rw [show (i + 1).toNat = i.toNat + 1 by omega, Int.pow_succ]; omega
        obtain ⟨r, h1, h2, h3⟩ := ih (10 * n + (bt s i - 48)) (i + 1) (by omega) (by omega) (by omega) (by omega) (by omega)
        refine ⟨r, ?_, ?_, h3⟩
        · refine Ev.step (fun k => impl_ReadDecimal.l0.eq_2 s n i k) (ev_ite_pos hlt (ev_ite_pos h0 (ev_ite_neg hlo (ev_ite_neg hhi ?_))))
          rw [e1, e2, e3, hw]; exact h1
        · refine Ev.step (fun k => spec_ReadDecimal.l0.eq_2 s n i k) (ev_ite_pos hlt (ev_ite_pos h0 (ev_ite_neg hlo (ev_ite_neg hhi ?_))))
          rw [e1, e4, e5, e6, hw]; exact h2
/-- What both programs read out of a text, told apart by the empty one. -/
theorem readdecimal_same (s : ByteArray) : ∃ r, Ev (fun k => impl_ReadDecimal.f k s) r ∧ Ev (fun k => spec_ReadDecimal.f k s) r ∧ (r.2 = false → r.1 = 0) ∧ 0 ≤ r.1 ∧ r.1 ≤ 1000000000 := by
  by_cases h : (s.size : Int) > 10
  · refine ⟨(0, false), ev_now' fun k => ?_, ev_now' fun k => ?_, by simp, by simp, by simp⟩
    · unfold impl_ReadDecimal.f; rw [within_eq, Option.bind_some, if_neg (by simp; omega)]
    · unfold spec_ReadDecimal.f; rw [if_pos h]
  · obtain ⟨r, h1, h2, h3, h4⟩ := readdecimal_loop s (by omega) s.size 0 0 (by omega) (by omega) (by omega) (by omega) (by decide)
    by_cases h0 : s.size = 0
    · have hlt : ¬ (0 : Int) < (s.size : Int) := by omega
      have hd : ∀ k, spec_Decimal.f k 0 = some (⟨#[48]⟩ : ByteArray) := fun k => by unfold spec_Decimal.f; rw [if_pos rfl]
      have hne : ¬ (⟨#[48]⟩ : ByteArray).toList = s.toList := by
        intro he
        have hs : s = ⟨#[]⟩ := by
          obtain ⟨a⟩ := s
          have ha : a = #[] := Array.eq_empty_of_size_eq_zero h0
          rw [ha]
        rw [hs, ByteArray.toList_eq, ByteArray.toList_eq] at he
        simp at he
      refine ⟨(0, false), ev_now' fun k => ?_, ?_, by simp, by simp, by simp⟩
      · unfold impl_ReadDecimal.f; rw [within_eq, Option.bind_some, if_neg (by simp; omega)]
      · refine Ev.congr (fun k => if_neg h) ?_
        refine Ev.step (fun k => spec_ReadDecimal.l0.eq_2 s 0 0 k) ?_
        refine ev_ite_neg hlt ?_
        refine ev_ite_neg (by omega) ?_
        refine Ev.bind (ev_now' hd) ?_
        exact ev_ite_neg hne (Ev.now _)
    · refine ⟨r, Ev.congr (fun k => ?_) h1, Ev.congr (fun k => ?_) h2, h3, h4⟩
      · unfold impl_ReadDecimal.f; rw [within_eq, Option.bind_some, if_pos (by simp; omega)]
      · unfold spec_ReadDecimal.f; rw [if_neg h]
/-- Both programs cut a text alike, from a place on. -/
theorem cut_loop (s : ByteArray) (hs : s.size ≤ 1099511627776) (by_ : Int) (d : Nat) : ∀ (out : List ByteArray) (fr i : Int), 0 ≤ fr → fr ≤ i → i ≤ (s.size : Int) → (s.size : Int) - i = d → (out.length : Int) ≤ i → (∀ p ∈ out, p.size ≤ s.size) →
    ∃ r, Ev (fun k => impl_cut.l0 k s by_ out fr i) r ∧ Ev (fun k => spec_l25Cut.l0 k s by_ out fr i) r ∧ (r.length : Int) ≤ (s.size : Int) + 1 ∧ 0 < r.length ∧ ∀ p ∈ r, p.size ≤ s.size := by
  have hcut : ∀ a b : Nat, (s.extract a b).size ≤ s.size := fun a b => by rw [ByteArray.size_extract]; omega
  have happ : ∀ (out : List ByteArray) (a b : Nat), (∀ p ∈ out, p.size ≤ s.size) → ∀ p ∈ out ++ [s.extract a b], p.size ≤ s.size := by
    intro out a b h p hp
    rcases List.mem_append.1 hp with hp | hp
    · exact h p hp
    · rw [List.mem_singleton.1 hp]; exact hcut a b
  induction d with
  | zero =>
    intro out fr i h0 h1 h2 hd hl hq
    have hi : i = (s.size : Int) := by omega
    have hw : wrap64 (i + 1) = i + 1 := w64 (by omega) (by omega)
    have hlim : out.length < 8796093022208 := by omega
    have ht : (i : Int).toNat = s.size := by omega
    refine ⟨out ++ [s.extract (fr : Int).toNat s.size], ?_, ?_, by simp; omega, by simp, happ out _ _ hq⟩
    · exact Ev.step (fun k => impl_cut.l0.eq_2 s by_ out fr i k) (ev_ite_neg (by omega) (ev_ite_pos h0 (ev_ite_pos (by omega) (ev_ite_pos hlim (Ev.now _)))))
    · refine Ev.step (fun k => spec_l25Cut.l0.eq_2 s by_ out fr i k) (ev_ite_pos h2 (ev_ite_pos hi (ev_ite_pos h0 (ev_ite_pos h1 (ev_ite_pos hlim ?_)))))
      rw [hw, ht]
      exact Ev.step (fun k => spec_l25Cut.l0.eq_2 s by_ _ (i + 1) (i + 1) k) (ev_ite_neg (by omega) (Ev.now _))
  | succ d ih =>
    intro out fr i h0 h1 h2 hd hl hq
    have hlt : i < (s.size : Int) := by omega
    have hw : wrap64 (i + 1) = i + 1 := w64 (by omega) (by omega)
    have hlim : out.length < 8796093022208 := by omega
    by_cases hb : bt s i = by_
    · obtain ⟨r, g1, g2, g3⟩ := ih (out ++ [s.extract (fr : Int).toNat (i : Int).toNat]) (i + 1) (i + 1) (by omega) (by omega) (by omega) (by omega) (by rw [List.length_append]; simp only [List.length_cons, List.length_nil]; omega) (happ out _ _ hq)
      refine ⟨r, ?_, ?_, g3⟩
      · refine Ev.step (fun k => impl_cut.l0.eq_2 s by_ out fr i k) (ev_ite_pos hlt (ev_ite_pos (by omega) (ev_ite_pos hb (ev_ite_pos h0 (ev_ite_pos h1 (ev_ite_pos h2 (ev_ite_pos hlim ?_)))))))
        rw [hw]; exact g1
      · refine Ev.step (fun k => spec_l25Cut.l0.eq_2 s by_ out fr i k) (ev_ite_pos h2 (ev_ite_neg (by omega) (ev_ite_pos (by omega) (ev_ite_pos hlt (ev_ite_pos hb (ev_ite_pos h0 (ev_ite_pos h1 (ev_ite_pos hlim ?_))))))))
        rw [hw]; exact g2
    · obtain ⟨r, g1, g2, g3⟩ := ih out fr (i + 1) h0 (by omega) (by omega) (by omega) (by omega) hq
      refine ⟨r, ?_, ?_, g3⟩
      · refine Ev.step (fun k => impl_cut.l0.eq_2 s by_ out fr i k) (ev_ite_pos hlt (ev_ite_pos (by omega) (ev_ite_neg hb ?_)))
        rw [hw]; exact g1
      · refine Ev.step (fun k => spec_l25Cut.l0.eq_2 s by_ out fr i k) (ev_ite_pos h2 (ev_ite_neg (by omega) (ev_ite_pos (by omega) (ev_ite_pos hlt (ev_ite_neg hb ?_)))))
        rw [hw]; exact g2
theorem cut_same (s : ByteArray) (hs : s.size ≤ 1099511627776) (by_ : Int) : ∃ r, Ev (fun k => impl_cut.f k s by_) r ∧ Ev (fun k => spec_l25Cut.f k s by_) r ∧ (r.length : Int) ≤ (s.size : Int) + 1 ∧ 0 < r.length ∧ ∀ p ∈ r, p.size ≤ s.size :=
  cut_loop s hs by_ s.size [] 0 0 (by omega) (by omega) (by omega) (by omega) (by simp) (by simp)
theorem eqints_loop (xs : List Int) (hx : xs.length ≤ 1099511627776) (d : Nat) : ∀ i : Int, 0 ≤ i → i ≤ (xs.length : Int) → (xs.length : Int) - i = d → Ev (fun k => laws_eqIntS.l0 k xs xs i) true := by
  induction d with
  | zero =>
    intro i h0 h1 hd
    exact Ev.step (fun k => laws_eqIntS.l0.eq_2 xs xs i k) (ev_ite_neg (by omega) (Ev.now _))
  | succ d ih =>
    intro i h0 h1 hd
    have hlt : i < (xs.length : Int) := by omega
    have hw : wrap64 (i + 1) = i + 1 := w64 (by omega) (by omega)
    refine Ev.step (fun k => laws_eqIntS.l0.eq_2 xs xs i k) (ev_ite_pos hlt (ev_ite_pos h0 (ev_ite_pos hlt (ev_ite_pos rfl ?_))))
    rw [hw]; exact ih (i + 1) (by omega) (by omega) (by omega)
theorem eqints_self (xs : List Int) (hx : xs.length ≤ 1099511627776) : Ev (fun k => laws_eqIntS.f k xs xs) true := by
  refine Ev.congr (fun k => if_pos rfl) ?_
  exact eqints_loop xs hx xs.length 0 (by omega) (by omega) (by omega)
theorem rd_int_set (xs : List Int) (i j v : Int) (h0 : 0 ≤ i) (h1 : i < (xs.length : Int)) (hj : 0 ≤ j) : rd (xs.set (i : Int).toNat v) j = if j = i then v else rd xs j := by
  unfold rd
  rw [List.getD_eq_getElem?_getD, List.getD_eq_getElem?_getD, List.getElem?_set]
  by_cases h : j = i
  · subst h; rw [if_pos rfl, if_pos rfl, if_pos (by omega)]; rfl
  · rw [if_neg (by omega), if_neg h]
/-- The marks that a row of numbers bears, from K on. -/
def MarkedI (xs : List Int) (K n : Int) : Prop := ∀ j : Int, 0 ≤ j → j < n → rd xs j = K + j
theorem markI_loop (K : Int) (hK : 0 ≤ K) (hK1 : K ≤ 1099511627776) (d : Nat) : ∀ (xs : List Int) (i : Int), xs.length ≤ 1099511627776 → 0 ≤ i → i ≤ (xs.length : Int) → (xs.length : Int) - i = d → MarkedI xs K i →
    ∃ ys, Ev (fun k => laws_markIntS.l0 k xs (K + i) i) (K + (xs.length : Int), ys) ∧ ys.length = xs.length ∧ MarkedI ys K (xs.length : Int) := by
  induction d with
  | zero =>
    intro xs i hx h0 h1 hd hm
    have e : i = (xs.length : Int) := by omega
    refine ⟨xs, ?_, rfl, by rw [e] at hm; exact hm⟩
    refine Ev.step (fun k => laws_markIntS.l0.eq_2 xs _ i k) (ev_ite_neg (by omega) ?_)
    rw [e]; exact Ev.now _
  | succ d ih =>
    intro xs i hx h0 h1 hd hm
    have hlt : i < (xs.length : Int) := by omega
    have hw : wrap64 (i + 1) = i + 1 := w64 (by omega) (by omega)
    have e1 : wrap64 (K + i + 1) = K + (i + 1) := by rw [w64 (by omega) (by omega)]; omega
    obtain ⟨ys, g1, g2, g3⟩ := ih (xs.set (i : Int).toNat (K + i)) (i + 1) (by rw [List.length_set]; exact hx) (by omega) (by rw [List.length_set]; omega) (by rw [List.length_set]; omega) (by
      intro j hj0 hj1
      rw [rd_int_set xs i j _ h0 hlt hj0]
      by_cases hj : j = i
      · subst hj; rw [if_pos rfl]
      · rw [if_neg hj]; exact hm j hj0 (by omega))
    rw [List.length_set] at g1 g2 g3
    refine ⟨ys, ?_, g2, g3⟩
    refine Ev.step (fun k => laws_markIntS.l0.eq_2 xs _ i k) (ev_ite_pos hlt (ev_ite_pos h0 ?_))
    rw [hw, e1]; exact g1
theorem marksI_held (xs : List Int) (K : Int) (hK : 0 ≤ K) (hK1 : K ≤ 1099511627776) (hx : xs.length ≤ 1099511627776) (hm : MarkedI xs K (xs.length : Int)) (d : Nat) : ∀ i : Int, 0 ≤ i → i ≤ (xs.length : Int) → (xs.length : Int) - i = d →
    Ev (fun k => laws_heldIntS.l0 k xs (K + i) i) (K + (xs.length : Int)) := by
  induction d with
  | zero =>
    intro i h0 h1 hd
    have e : i = (xs.length : Int) := by omega
    refine Ev.step (fun k => laws_heldIntS.l0.eq_2 xs _ i k) (ev_ite_neg (by omega) ?_)
    rw [e]; exact Ev.now _
  | succ d ih =>
    intro i h0 h1 hd
    have hlt : i < (xs.length : Int) := by omega
    have hw : wrap64 (i + 1) = i + 1 := w64 (by omega) (by omega)
    have e1 : wrap64 (K + i + 1) = K + (i + 1) := by rw [w64 (by omega) (by omega)]; omega
    refine Ev.step (fun k => laws_heldIntS.l0.eq_2 xs _ i k) (ev_ite_pos hlt (ev_ite_pos h0 (ev_ite_pos (hm i h0 hlt) ?_)))
    rw [hw, e1]; exact ih (i + 1) (by omega) (by omega) (by omega)
/-- Marked, a row holds its marks, and the count behind them is the same. -/
theorem markI_held (xs : List Int) (hx : xs.length ≤ 1099511627776) (K : Int) (hK : 0 ≤ K) (hK1 : K ≤ 1099511627776) : ∃ ys, Ev (fun k => laws_markIntS.f k xs K) (K + (xs.length : Int), ys) ∧ Ev (fun k => laws_heldIntS.f k ys K) (K + (xs.length : Int)) := by
  obtain ⟨ys, g1, g2, g3⟩ := markI_loop K hK hK1 xs.length xs 0 hx (by omega) (by omega) (by omega) (fun j h h' => by omega)
  have g4 := marksI_held ys K hK hK1 (by omega) (by rw [g2]; exact g3) ys.length 0 (by omega) (by omega) (by omega)
  rw [g2] at g4
  rw [show K + (0 : Int) = K by omega] at g1 g4
  exact ⟨ys, g1, g4⟩
theorem in_eq (a b c : Int) : spec_l01In.f a b c = some (decide (b ≤ a ∧ a ≤ c)) := by
  unfold spec_l01In.f
  by_cases h : a ≥ b
  · rw [if_pos h]; simp [show b ≤ a from h]
  · rw [if_neg h]; simp [show ¬ b ≤ a from h]
theorem rd_drop (l : List Int) (i : Int) (h0 : 0 ≤ i) (h1 : i < (l.length : Int)) : l.drop i.toNat = rd l i :: l.drop (i + 1).toNat := by
  rw [List.drop_eq_getElem_cons (by omega : i.toNat < l.length), show (i + 1).toNat = i.toNat + 1 by omega]
  congr 1
  unfold rd
  rw [List.getD_eq_getElem?_getD, List.getElem?_eq_getElem (by omega)]; rfl
theorem drop_end {α : Type} (l : List α) (i : Int) (h : (l.length : Int) ≤ i) : l.drop i.toNat = [] := List.drop_eq_nil_of_le (by omega)
/-- A side of a wall: 1 to 4 numbers, each 1 to 8. -/
def inR (x : Int) : Bool := decide (1 ≤ x ∧ x ≤ 8)
def sideOk (l : List Int) : Bool := decide (1 ≤ l.length ∧ l.length ≤ 4) && l.all inR
theorem side_short (l : List Int) (h : ¬ (1 ≤ (l.length : Int) ∧ (l.length : Int) ≤ 4)) : sideOk l = false := by
  have hd : decide (1 ≤ l.length ∧ l.length ≤ 4) = false := by rw [decide_eq_false_iff_not]; omega
  unfold sideOk; rw [hd]; rfl
theorem side_all (l : List Int) (h : 1 ≤ (l.length : Int) ∧ (l.length : Int) ≤ 4) : sideOk l = l.all inR := by
  have hd : decide (1 ≤ l.length ∧ l.length ≤ 4) = true := by rw [decide_eq_true_eq]; omega
  unfold sideOk; rw [hd]; rfl
theorem side_bad (l : List Int) (h : l.all inR = false) : sideOk l = false := by unfold sideOk; rw [h, Bool.and_false]
theorem sum_bounds (l : List Int) (h : l.all inR = true) : (l.length : Int) ≤ l.sum ∧ l.sum ≤ 8 * l.length := by
  induction l with
  | nil => simp
  | cons x l ih =>
    simp only [List.all_cons, Bool.and_eq_true, inR, decide_eq_true_eq] at h
    have := ih (by simpa [inR] using h.2)
    simp only [List.sum_cons, List.length_cons]
    omega
theorem sumOf_loop (l : List Int) (hl : l.length ≤ 4) (d : Nat) : ∀ (n i : Int), 0 ≤ i → i ≤ (l.length : Int) → (l.length : Int) - i = d → (l.drop i.toNat).all inR = true → 0 ≤ n → n ≤ 8 * i → Ev (fun k => impl_sumOf.l0 k n l (l.length : Int) i) (n + (l.drop i.toNat).sum) := by
  induction d with
  | zero =>
    intro n i h0 h1 hd ha hn hn1
    rw [drop_end l i (by omega)]
    refine Ev.step (fun k => impl_sumOf.l0.eq_2 n l _ i k) (ev_ite_neg (by omega) ?_)
    simpa using Ev.now n
  | succ d ih =>
    intro n i h0 h1 hd ha hn hn1
    have hlt : i < (l.length : Int) := by omega
    rw [rd_drop l i h0 hlt] at ha ⊢
    simp only [List.all_cons, Bool.and_eq_true, inR, decide_eq_true_eq] at ha
    refine Ev.step (fun k => impl_sumOf.l0.eq_2 n l _ i k) (ev_ite_pos hlt (ev_ite_pos h0 (ev_ite_pos hlt ?_)))
    rw [w64 (by omega) (by omega), w64 (by omega) (by omega), List.sum_cons, ← Int.add_assoc]
    exact ih (n + rd l i) (i + 1) (by omega) (by omega) (by omega) (by simpa [inR] using ha.2) (by omega) (by omega)
theorem sumOf_ev (l : List Int) (h : sideOk l = true) : Ev (fun k => impl_sumOf.f k l) l.sum := by
  simp only [sideOk, Bool.and_eq_true, decide_eq_true_eq] at h
  have := sumOf_loop l h.1.2 l.length 0 0 (by omega) (by omega) (by omega) (by simpa using h.2) (by omega) (by omega)
  rw [show (0 : Int) + (l.drop (0 : Int).toNat).sum = l.sum by simp] at this
  exact this
/-- How many squares; 0 where a side is none. -/
def squares (c r : List Int) : Int := if sideOk c && sideOk r then c.sum * r.sum else 0
theorem squares_c (c r : List Int) (h : sideOk c = false) : squares c r = 0 := by unfold squares; rw [h]; rfl
theorem squares_r (c r : List Int) (h : sideOk r = false) : squares c r = 0 := by unfold squares; rw [h, Bool.and_false]; rfl
theorem squares_bounds (c r : List Int) : 0 ≤ squares c r ∧ squares c r ≤ 1024 := by
  unfold squares
  split
  · rename_i h
    simp only [Bool.and_eq_true] at h
    have h1 := h.1; have h2 := h.2
    simp only [sideOk, Bool.and_eq_true, decide_eq_true_eq] at h1 h2
    have b1 := sum_bounds c h1.2
    have b2 := sum_bounds r h2.2
    constructor
    · exact Int.mul_nonneg (by omega) (by omega)
    · have : c.sum * r.sum ≤ 32 * 32 := Int.mul_le_mul (by omega) (by omega) (by omega) (by omega)
      omega
  · omega
theorem squares_l1 (ls : List (List Int)) (n i : Int) (l : List Int) (a b : Int) (c r : List Int) (v : Int) (hl : l.length ≤ 1099511627776) (hg : l.all inR = true → Ev (fun k => impl_SquaresOf.l0 k ls n (wrap64 (i + 1)) a b c r) v) (hb : l.all inR = false → v = 0) (d : Nat) :
    ∀ j : Int, 0 ≤ j → j ≤ (l.length : Int) → (l.length : Int) - j = d → l.all inR = (l.drop j.toNat).all inR → Ev (fun k => impl_SquaresOf.l1 k ls n i l (l.length : Int) j a b c r) v := by
  induction d with
  | zero =>
    intro j h0 h1 hd ha
    refine Ev.step (fun k => impl_SquaresOf.l1.eq_2 ls n i l _ j a b c r k) (ev_ite_neg (by omega) (hg ?_))
    rw [ha, drop_end l j (by omega)]; rfl
  | succ d ih =>
    intro j h0 h1 hd ha
    have hlt : j < (l.length : Int) := by omega
    refine Ev.step (fun k => impl_SquaresOf.l1.eq_2 ls n i l _ j a b c r k) (ev_ite_pos hlt (ev_ite_pos h0 (ev_ite_pos hlt (ev_bind_some (within_eq _ _ _) ?_))))
    rw [rd_drop l j h0 hlt] at ha
    simp only [List.all_cons] at ha
    by_cases hin : 1 ≤ rd l j ∧ rd l j ≤ 8
    · refine ev_ite_pos (by simpa using hin) ?_
      rw [w64 (by omega) (by omega)]
      refine ih (j + 1) (by omega) (by omega) (by omega) ?_
      rw [ha, show inR (rd l j) = true by simpa [inR] using hin]; simp
    · refine ev_ite_neg (by simpa using hin) ?_
      rw [show inR (rd l j) = false by simpa [inR] using hin] at ha
      rw [hb (by rw [ha]; rfl)]; exact Ev.now _
theorem squares_impl (a b : Int) (c r : List Int) (hc : c.length ≤ 1099511627776) (hr : r.length ≤ 1099511627776) : Ev (fun k => impl_SquaresOf.f k a b c r) (squares c r) := by
  refine ev_bind_some rfl ?_
  have e0 : rd_L1 [c, r] 0 = c := rfl
  have e1 : rd_L1 [c, r] 1 = r := rfl
  refine Ev.step (fun k => impl_SquaresOf.l0.eq_2 [c, r] 2 0 a b c r k) (ev_ite_pos (by omega) (ev_ite_pos (by omega) (ev_ite_pos (by simp) ?_)))
  rw [e0]
  refine ev_bind_some (within_eq _ _ _) ?_
  by_cases hcl : 1 ≤ (c.length : Int) ∧ (c.length : Int) ≤ 4
  · refine ev_ite_pos (by simpa using hcl) ?_
    refine squares_l1 [c, r] 2 0 c a b c r _ hc ?_ ?_ c.length 0 (by omega) (by omega) (by omega) (by simp)
    · intro hca
      have hcs : sideOk c = true := by rw [side_all c hcl, hca]
      rw [show wrap64 (0 + 1) = 1 from w64 (by omega) (by omega)]
      refine Ev.step (fun k => impl_SquaresOf.l0.eq_2 [c, r] 2 1 a b c r k) (ev_ite_pos (by omega) (ev_ite_pos (by omega) (ev_ite_pos (by simp) ?_)))
      rw [e1]
      refine ev_bind_some (within_eq _ _ _) ?_
      by_cases hrl : 1 ≤ (r.length : Int) ∧ (r.length : Int) ≤ 4
      · refine ev_ite_pos (by simpa using hrl) ?_
        refine squares_l1 [c, r] 2 1 r a b c r _ hr ?_ ?_ r.length 0 (by omega) (by omega) (by omega) (by simp)
        · intro hra
          have hrs : sideOk r = true := by rw [side_all r hrl, hra]
          rw [show wrap64 (1 + 1) = 2 from w64 (by omega) (by omega)]
          have hsq : squares c r = c.sum * r.sum := by simp [squares, hcs, hrs]
          refine Ev.step (fun k => impl_SquaresOf.l0.eq_2 [c, r] 2 2 a b c r k) (ev_ite_neg (by omega) (Ev.bind (sumOf_ev c hcs) (Ev.bind (sumOf_ev r hrs) ?_)))
          have hb := squares_bounds c r
          rw [hsq] at hb ⊢
          rw [w64 (by omega) (by omega)]; exact Ev.now _
        · intro hra; exact squares_r c r (side_bad r hra)
      · refine ev_ite_neg (by simpa using hrl) ?_
        rw [squares_r c r (side_short r hrl)]
        exact Ev.now _
    · intro hca; exact squares_c c r (side_bad c hca)
  · refine ev_ite_neg (by simpa using hcl) ?_
    rw [squares_c c r (side_short c hcl)]
    exact Ev.now _
theorem sum_spec_loop (l : List Int) (hl : l.length ≤ 4) (d : Nat) : ∀ (n i : Int), 0 ≤ i → i ≤ (l.length : Int) → (l.length : Int) - i = d → 0 ≤ n → n ≤ 8 * i → Ev (fun k => spec_l05Sum.l0 k l n i) (if (l.drop i.toNat).all inR then n + (l.drop i.toNat).sum else 0) := by
  induction d with
  | zero =>
    intro n i h0 h1 hd hn hn1
    rw [drop_end l i (by omega)]
    refine Ev.step (fun k => spec_l05Sum.l0.eq_2 l n i k) (ev_ite_neg (by omega) ?_)
    simpa using Ev.now n
  | succ d ih =>
    intro n i h0 h1 hd hn hn1
    have hlt : i < (l.length : Int) := by omega
    rw [rd_drop l i h0 hlt]
    refine Ev.step (fun k => spec_l05Sum.l0.eq_2 l n i k) (ev_ite_pos hlt (ev_ite_pos h0 (ev_bind_some (in_eq _ _ _) ?_)))
    by_cases hin : 1 ≤ rd l i ∧ rd l i ≤ 8
    · refine ev_ite_pos (by simpa using hin) ?_
      rw [w64 (by omega) (by omega), w64 (by omega) (by omega)]
      have := ih (n + rd l i) (i + 1) (by omega) (by omega) (by omega) (by omega) (by omega)
      rw [List.all_cons, show inR (rd l i) = true by simpa [inR] using hin, Bool.true_and, List.sum_cons, ← Int.add_assoc]
      exact this
    · refine ev_ite_neg (by simpa using hin) ?_
      rw [List.all_cons, show inR (rd l i) = false by simpa [inR] using hin]
      simpa using Ev.now (0 : Int)
theorem sum_spec (l : List Int) : Ev (fun k => spec_l05Sum.f k l) (if sideOk l then l.sum else 0) := by
  by_cases h1 : (l.length : Int) < 1
  · refine Ev.congr (fun k => if_pos h1) (Ev.step (fun k => spec_l05Sum.j0.eq_2 l true k) (ev_ite_pos rfl ?_))
    rw [side_short l (by omega)]
    exact Ev.now _
  · refine Ev.congr (fun k => if_neg h1) ?_
    by_cases h4 : (l.length : Int) > 4
    · refine Ev.step (fun k => spec_l05Sum.j0.eq_2 l _ k) (ev_ite_pos (by simpa using h4) ?_)
      rw [side_short l (by omega)]
      exact Ev.now _
    · refine Ev.step (fun k => spec_l05Sum.j0.eq_2 l _ k) (ev_ite_neg (by simpa using h4) ?_)
      have := sum_spec_loop l (by omega) l.length 0 0 (by omega) (by omega) (by omega) (by omega) (by omega)
      rw [side_all l (by omega)]
      simpa using this
theorem squares_spec (a b : Int) (c r : List Int) : Ev (fun k => spec_SquaresOf.f k a b c r) (squares c r) := by
  refine Ev.bind (sum_spec c) (Ev.bind (sum_spec r) ?_)
  have hb := squares_bounds c r
  have he : (if sideOk c then c.sum else 0) * (if sideOk r then r.sum else 0) = squares c r := by
    unfold squares
    cases sideOk c <;> cases sideOk r <;> simp
  rw [he, w64 (by omega) (by omega)]
  exact Ev.now _
def levelSquares (a : Int) : Int := if a = 1 then 16 else if a = 2 then 64 else if a = 3 then 256 else 0
theorem levelSquares_impl (a : Int) : impl_LevelSquares.f a = some (levelSquares a) := by
  unfold impl_LevelSquares.f levelSquares
  rw [within_eq, Option.bind_some]
  by_cases h1 : a = 1
  · subst h1; simp [wrap64, rd]
  · by_cases h2 : a = 2
    · subst h2; simp [wrap64, rd]
    · by_cases h3 : a = 3
      · subst h3; simp [wrap64, rd]
      · rw [if_neg (by simp; omega), if_neg h1, if_neg h2, if_neg h3]
theorem levelSquares_spec (a : Int) : spec_LevelSquares.f a = some (levelSquares a) := by
  unfold spec_LevelSquares.f levelSquares
  split
  · rfl
  · split
    · rfl
    · split <;> rfl
/-- A wall's set is right. -/
def seqOk (lv bits : Int) (c r : List Int) : Bool := decide (1 ≤ squares c r ∧ squares c r ≤ levelSquares lv) && decide (3 ≤ bits ∧ bits ≤ 8)
theorem seqOk_impl (lv bits : Int) (c r : List Int) (hc : c.length ≤ 1099511627776) (hr : r.length ≤ 1099511627776) : Ev (fun k => impl_SeqOk.f k lv bits c r) (seqOk lv bits c r) := by
  refine Ev.bind (squares_impl lv bits c r hc hr) (ev_bind_some (levelSquares_impl lv) (ev_bind_some (within_eq _ _ _) ?_))
  unfold seqOk
  by_cases h : 1 ≤ squares c r ∧ squares c r ≤ levelSquares lv
  · refine ev_ite_pos (by simpa using h) (ev_bind_some (within_eq _ _ _) ?_)
    rw [decide_eq_true h, Bool.true_and]; exact Ev.now _
  · refine ev_ite_neg (by simpa using h) ?_
    rw [decide_eq_false h, Bool.false_and]; exact Ev.now _
theorem seqOk_spec (lv bits : Int) (c r : List Int) : Ev (fun k => spec_SeqOk.f k lv bits c r) (seqOk lv bits c r) := by
  refine Ev.bind (squares_spec lv bits c r) (ev_bind_some (levelSquares_spec lv) (ev_bind_some (in_eq _ _ _) ?_))
  unfold seqOk
  by_cases h : 1 ≤ squares c r ∧ squares c r ≤ levelSquares lv
  · refine ev_ite_pos (by simpa using h) (ev_bind_some (in_eq _ _ _) ?_)
    rw [decide_eq_true h, Bool.true_and]; exact Ev.now _
  · refine ev_ite_neg (by simpa using h) ?_
    rw [decide_eq_false h, Bool.false_and]; exact Ev.now _
/-- The least level of a set with these sides, or 0. -/
def levelFor (c r : List Int) : Int := if seqOk 1 3 c r then 1 else if seqOk 2 3 c r then 2 else if seqOk 3 3 c r then 3 else 0
theorem levelFor_impl (c r : List Int) (hc : c.length ≤ 1099511627776) (hr : r.length ≤ 1099511627776) : Ev (fun k => impl_LevelFor.f k c r) (levelFor c r) := by
  unfold levelFor
  refine Ev.step (fun k => impl_LevelFor.l0.eq_2 c r 1 k) (ev_ite_pos (by omega) (Ev.bind (seqOk_impl 1 3 c r hc hr) ?_))
  by_cases h1 : seqOk 1 3 c r = true
  · rw [if_pos h1]; exact ev_ite_pos h1 (Ev.now _)
  · rw [if_neg h1]; refine ev_ite_neg h1 ?_
    rw [show wrap64 (1 + 1) = 2 from w64 (by omega) (by omega)]
    refine Ev.step (fun k => impl_LevelFor.l0.eq_2 c r 2 k) (ev_ite_pos (by omega) (Ev.bind (seqOk_impl 2 3 c r hc hr) ?_))
    by_cases h2 : seqOk 2 3 c r = true
    · rw [if_pos h2]; exact ev_ite_pos h2 (Ev.now _)
    · rw [if_neg h2]; refine ev_ite_neg h2 ?_
      rw [show wrap64 (2 + 1) = 3 from w64 (by omega) (by omega)]
      refine Ev.step (fun k => impl_LevelFor.l0.eq_2 c r 3 k) (ev_ite_pos (by omega) (Ev.bind (seqOk_impl 3 3 c r hc hr) ?_))
      by_cases h3 : seqOk 3 3 c r = true
      · rw [if_pos h3]; exact ev_ite_pos h3 (Ev.now _)
      · rw [if_neg h3]; refine ev_ite_neg h3 ?_
        rw [show wrap64 (3 + 1) = 4 from w64 (by omega) (by omega)]
        exact Ev.step (fun k => impl_LevelFor.l0.eq_2 c r 4 k) (ev_ite_neg (by omega) (Ev.now _))
theorem levelFor_spec (c r : List Int) : Ev (fun k => spec_LevelFor.f k c r) (levelFor c r) := by
  unfold levelFor
  refine Ev.step (fun k => spec_LevelFor.l0.eq_2 c r 1 k) (ev_ite_pos (by omega) (Ev.bind (seqOk_spec 1 3 c r) ?_))
  by_cases h1 : seqOk 1 3 c r = true
  · rw [if_pos h1]; exact ev_ite_pos h1 (Ev.now _)
  · rw [if_neg h1]; refine ev_ite_neg h1 ?_
    rw [show wrap64 (1 + 1) = 2 from w64 (by omega) (by omega)]
    refine Ev.step (fun k => spec_LevelFor.l0.eq_2 c r 2 k) (ev_ite_pos (by omega) (Ev.bind (seqOk_spec 2 3 c r) ?_))
    by_cases h2 : seqOk 2 3 c r = true
    · rw [if_pos h2]; exact ev_ite_pos h2 (Ev.now _)
    · rw [if_neg h2]; refine ev_ite_neg h2 ?_
      rw [show wrap64 (2 + 1) = 3 from w64 (by omega) (by omega)]
      refine Ev.step (fun k => spec_LevelFor.l0.eq_2 c r 3 k) (ev_ite_pos (by omega) (Ev.bind (seqOk_spec 3 3 c r) ?_))
      by_cases h3 : seqOk 3 3 c r = true
      · rw [if_pos h3]; exact ev_ite_pos h3 (Ev.now _)
      · rw [if_neg h3]; refine ev_ite_neg h3 ?_
        rw [show wrap64 (3 + 1) = 4 from w64 (by omega) (by omega)]
        exact Ev.step (fun k => spec_LevelFor.l0.eq_2 c r 4 k) (ev_ite_neg (by omega) (Ev.now _))
theorem levelFor_side (c r : List Int) (h : levelFor c r ≠ 0) : sideOk c = true ∧ sideOk r = true := by
  have key : ∀ lv, seqOk lv 3 c r = true → sideOk c = true ∧ sideOk r = true := by
    intro lv h
    simp only [seqOk, Bool.and_eq_true, decide_eq_true_eq] at h
    have h1 := h.1.1
    unfold squares at h1
    split at h1
    · rename_i hs; simpa using hs
    · omega
  unfold levelFor at h
  split at h
  · exact key 1 (by assumption)
  · split at h
    · exact key 2 (by assumption)
    · split at h
      · exact key 3 (by assumption)
      · exact absurd rfl h
/-- What a layout's list of inputs must be. -/
def WhoOk (w : List Int) : Prop := ∀ i : Int, 0 ≤ i → i < (w.length : Int) → (-1 ≤ rd w i ∧ rd w i ≤ 5) ∧ ∀ j : Int, 0 ≤ j → j < i → rd w i ≥ 0 → rd w j ≠ rd w i
def LayP (c r w : List Int) : Prop := levelFor c r ≠ 0 ∧ (w.length : Int) = (c.length : Int) * (r.length : Int) ∧ WhoOk w
theorem rd_take (l : List Int) (i j : Int) (h0 : 0 ≤ j) (h1 : j < i) : rd (l.take i.toNat) j = rd l j := by
  unfold rd
  rw [List.getD_eq_getElem?_getD, List.getD_eq_getElem?_getD, List.getElem?_take, if_pos (by omega)]
theorem who_inner (w c r : List Int) (hw : w.length ≤ 1099511627776) (i : Int) (hi0 : 0 ≤ i) (hi1 : i < (w.length : Int)) (b : Bool)
    (hg : (∀ j : Int, 0 ≤ j → j < i → rd w i ≥ 0 → rd w j ≠ rd w i) → Ev (fun k => impl_LayoutOk.l0 k w (w.length : Int) (wrap64 (i + 1)) c r w) b ∧ Ev (fun k => spec_LayoutOk.l0 k (wrap64 (i + 1)) c r w) b)
    (hb : ¬ (∀ j : Int, 0 ≤ j → j < i → rd w i ≥ 0 → rd w j ≠ rd w i) → b = false) (d : Nat) :
    ∀ j : Int, 0 ≤ j → j ≤ i → i - j = d → (∀ j' : Int, 0 ≤ j' → j' < j → rd w i ≥ 0 → rd w j' ≠ rd w i) →
      Ev (fun k => impl_LayoutOk.l1 k (rd w i) w (w.length : Int) i (w.take i.toNat) ((w.take i.toNat).length : Int) j c r w) b ∧ Ev (fun k => spec_LayoutOk.l1 k i j c r w) b := by
  have hlen : (((w.take i.toNat).length : Nat) : Int) = i := by rw [List.length_take]; omega
  induction d with
  | zero =>
    intro j h0 h1 hd hs
    have e : j = i := by omega
    obtain ⟨g1, g2⟩ := hg (by rw [← e]; rw [e] at hs ⊢; exact hs)
    exact ⟨Ev.step (fun k => impl_LayoutOk.l1.eq_2 (rd w i) w _ i _ _ j c r w k) (ev_ite_neg (by omega) g1), Ev.step (fun k => spec_LayoutOk.l1.eq_2 i j c r w k) (ev_ite_neg (by omega) g2)⟩
  | succ d ih =>
    intro j h0 h1 hd hs
    have hlt : j < i := by omega
    have hnext : (∀ j' : Int, 0 ≤ j' → j' < j + 1 → rd w i ≥ 0 → rd w j' ≠ rd w i) → Ev (fun k => impl_LayoutOk.l1 k (rd w i) w (w.length : Int) i (w.take i.toNat) ((w.take i.toNat).length : Int) (wrap64 (j + 1)) c r w) b ∧ Ev (fun k => spec_LayoutOk.l1 k i (wrap64 (j + 1)) c r w) b := by
      intro h; rw [w64 (by omega) (by omega)]; exact ih (j + 1) (by omega) (by omega) (by omega) h
    by_cases hpos : rd w i ≥ 0
    · by_cases heq : rd w j = rd w i
      · have hbf : b = false := hb (fun h => h j h0 hlt hpos heq)
        subst hbf
        refine ⟨?_, ?_⟩
        · refine Ev.step (fun k => impl_LayoutOk.l1.eq_2 (rd w i) w _ i _ _ j c r w k) (ev_ite_pos (by omega) (ev_ite_pos h0 (ev_ite_pos (by omega) (ev_ite_pos hpos (ev_ite_pos ?_ (Ev.now _))))))
          rw [rd_take w i j h0 hlt]; exact heq
        · exact Ev.step (fun k => spec_LayoutOk.l1.eq_2 i j c r w k) (ev_ite_pos hlt (ev_ite_pos hi0 (ev_ite_pos hi1 (ev_ite_pos hpos (ev_ite_pos h0 (ev_ite_pos (by omega) (ev_ite_pos heq (Ev.now _))))))))
      · obtain ⟨g1, g2⟩ := hnext (fun j' a b' c' => by
          by_cases hj : j' = j
          · rw [hj]; exact heq
          · exact hs j' a (by omega) c')
        refine ⟨?_, ?_⟩
        · refine Ev.step (fun k => impl_LayoutOk.l1.eq_2 (rd w i) w _ i _ _ j c r w k) (ev_ite_pos (by omega) (ev_ite_pos h0 (ev_ite_pos (by omega) (ev_ite_pos hpos (ev_ite_neg ?_ g1)))))
          rw [rd_take w i j h0 hlt]; exact heq
        · exact Ev.step (fun k => spec_LayoutOk.l1.eq_2 i j c r w k) (ev_ite_pos hlt (ev_ite_pos hi0 (ev_ite_pos hi1 (ev_ite_pos hpos (ev_ite_pos h0 (ev_ite_pos (by omega) (ev_ite_neg heq g2)))))))
    · obtain ⟨g1, g2⟩ := hnext (fun j' a b' c' => absurd c' hpos)
      exact ⟨Ev.step (fun k => impl_LayoutOk.l1.eq_2 (rd w i) w _ i _ _ j c r w k) (ev_ite_pos (by omega) (ev_ite_pos h0 (ev_ite_pos (by omega) (ev_ite_neg hpos g1)))),
        Ev.step (fun k => spec_LayoutOk.l1.eq_2 i j c r w k) (ev_ite_pos hlt (ev_ite_pos hi0 (ev_ite_pos hi1 (ev_ite_neg hpos g2))))⟩
theorem who_outer (w c r : List Int) (hw : w.length ≤ 1099511627776) (d : Nat) : ∀ i : Int, 0 ≤ i → i ≤ (w.length : Int) → (w.length : Int) - i = d →
    ∃ b, Ev (fun k => impl_LayoutOk.l0 k w (w.length : Int) i c r w) b ∧ Ev (fun k => spec_LayoutOk.l0 k i c r w) b ∧
      (b = true ↔ ∀ i' : Int, i ≤ i' → i' < (w.length : Int) → (-1 ≤ rd w i' ∧ rd w i' ≤ 5) ∧ ∀ j : Int, 0 ≤ j → j < i' → rd w i' ≥ 0 → rd w j ≠ rd w i') := by
  induction d with
  | zero =>
    intro i h0 h1 hd
    exact ⟨true, Ev.step (fun k => impl_LayoutOk.l0.eq_2 w _ i c r w k) (ev_ite_neg (by omega) (Ev.now _)), Ev.step (fun k => spec_LayoutOk.l0.eq_2 i c r w k) (ev_ite_neg (by omega) (Ev.now _)), by simp; intro i' a b; omega⟩
  | succ d ih =>
    intro i h0 h1 hd
    have hlt : i < (w.length : Int) := by omega
    by_cases hin : -1 ≤ rd w i ∧ rd w i ≤ 5
    · obtain ⟨b, g1, g2, g3⟩ := ih (i + 1) (by omega) (by omega) (by omega)
      by_cases hall : ∀ j : Int, 0 ≤ j → j < i → rd w i ≥ 0 → rd w j ≠ rd w i
      · obtain ⟨k1, k2⟩ := who_inner w c r hw i h0 hlt b (fun _ => by rw [w64 (by omega) (by omega)]; exact ⟨g1, g2⟩) (fun h => absurd hall h) i.toNat 0 (by omega) h0 (by omega) (fun j' a b' => by omega)
        refine ⟨b, ?_, ?_, ?_⟩
        · exact Ev.step (fun k => impl_LayoutOk.l0.eq_2 w _ i c r w k) (ev_ite_pos hlt (ev_ite_pos h0 (ev_ite_pos hlt (ev_bind_some (within_eq _ _ _) (ev_ite_pos (by simpa using hin) (ev_ite_pos h1 k1))))))
        · exact Ev.step (fun k => spec_LayoutOk.l0.eq_2 i c r w k) (ev_ite_pos hlt (ev_ite_pos h0 (ev_bind_some (in_eq _ _ _) (ev_ite_pos (by simpa using hin) k2))))
        · rw [g3]
          constructor
          · intro h i' a b'
            by_cases e : i' = i
            · rw [e]; exact ⟨hin, hall⟩
            · exact h i' (by omega) b'
          · intro h i' a b'; exact h i' (by omega) b'
      · obtain ⟨k1, k2⟩ := who_inner w c r hw i h0 hlt false (fun h => absurd h hall) (fun _ => rfl) i.toNat 0 (by omega) h0 (by omega) (fun j' a b' => by omega)
        refine ⟨false, ?_, ?_, ?_⟩
        · exact Ev.step (fun k => impl_LayoutOk.l0.eq_2 w _ i c r w k) (ev_ite_pos hlt (ev_ite_pos h0 (ev_ite_pos hlt (ev_bind_some (within_eq _ _ _) (ev_ite_pos (by simpa using hin) (ev_ite_pos h1 k1))))))
        · exact Ev.step (fun k => spec_LayoutOk.l0.eq_2 i c r w k) (ev_ite_pos hlt (ev_ite_pos h0 (ev_bind_some (in_eq _ _ _) (ev_ite_pos (by simpa using hin) k2))))
        · constructor
          · intro h; exact absurd h (by decide)
          · intro h; exact absurd (h i (Int.le_refl _) hlt).2 hall
    · refine ⟨false, ?_, ?_, ?_⟩
      · exact Ev.step (fun k => impl_LayoutOk.l0.eq_2 w _ i c r w k) (ev_ite_pos hlt (ev_ite_pos h0 (ev_ite_pos hlt (ev_bind_some (within_eq _ _ _) (ev_ite_neg (by simpa using hin) (Ev.now _))))))
      · exact Ev.step (fun k => spec_LayoutOk.l0.eq_2 i c r w k) (ev_ite_pos hlt (ev_ite_pos h0 (ev_bind_some (in_eq _ _ _) (ev_ite_neg (by simpa using hin) (Ev.now _)))))
      · constructor
        · intro h; exact absurd h (by decide)
        · intro h; exact absurd (h i (Int.le_refl _) hlt).1 hin
theorem layoutOk_same (c r w : List Int) (hc : c.length ≤ 2097152) (hr : r.length ≤ 2097152) (hw : w.length ≤ 1099511627776) :
    ∃ b, Ev (fun k => impl_LayoutOk.f k c r w) b ∧ Ev (fun k => spec_LayoutOk.f k c r w) b ∧ (b = true ↔ LayP c r w) := by
  have hm : 0 ≤ (c.length : Int) * (r.length : Int) ∧ (c.length : Int) * (r.length : Int) ≤ 2097152 * 2097152 := ⟨Int.mul_nonneg (by omega) (by omega), Int.mul_le_mul (by omega) (by omega) (by omega) (by omega)⟩
  have hmw : wrap64 ((c.length : Int) * (r.length : Int)) = (c.length : Int) * (r.length : Int) := w64 (by omega) (by omega)
  by_cases h0 : levelFor c r = 0
  · refine ⟨false, ?_, ?_, ?_⟩
    · exact Ev.bind (levelFor_impl c r (by omega) (by omega)) (ev_ite_pos h0 (Ev.step (fun k => impl_LayoutOk.j0.eq_2 true c r w k) (ev_ite_pos rfl (Ev.now _))))
    · exact Ev.bind (levelFor_spec c r) (ev_ite_pos h0 (Ev.step (fun k => spec_LayoutOk.j0.eq_2 true c r w k) (ev_ite_pos rfl (Ev.now _))))
    · constructor
      · intro h; exact absurd h (by decide)
      · intro h; exact absurd h0 h.1
  · by_cases hl : (w.length : Int) = (c.length : Int) * (r.length : Int)
    · obtain ⟨b, g1, g2, g3⟩ := who_outer w c r hw w.length 0 (by omega) (by omega) (by omega)
      have hbq : ((w.length : Int) != wrap64 ((c.length : Int) * (r.length : Int))) = false := by rw [hmw, bne_eq_false_iff_eq]; exact hl
      refine ⟨b, ?_, ?_, ?_⟩
      · refine Ev.bind (levelFor_impl c r (by omega) (by omega)) (ev_ite_neg h0 ?_)
        rw [hbq]; exact Ev.step (fun k => impl_LayoutOk.j0.eq_2 false c r w k) (ev_ite_neg (by decide) g1)
      · refine Ev.bind (levelFor_spec c r) (ev_ite_neg h0 ?_)
        rw [hbq]; exact Ev.step (fun k => spec_LayoutOk.j0.eq_2 false c r w k) (ev_ite_neg (by decide) g2)
      · rw [g3]; constructor
        · intro h; exact ⟨h0, hl, h⟩
        · intro h; exact h.2.2
    · have hbq : ((w.length : Int) != wrap64 ((c.length : Int) * (r.length : Int))) = true := by rw [hmw, bne_iff_ne]; exact hl
      refine ⟨false, ?_, ?_, ?_⟩
      · refine Ev.bind (levelFor_impl c r (by omega) (by omega)) (ev_ite_neg h0 ?_)
        rw [hbq]; exact Ev.step (fun k => impl_LayoutOk.j0.eq_2 true c r w k) (ev_ite_pos rfl (Ev.now _))
      · refine Ev.bind (levelFor_spec c r) (ev_ite_neg h0 ?_)
        rw [hbq]; exact Ev.step (fun k => spec_LayoutOk.j0.eq_2 true c r w k) (ev_ite_pos rfl (Ev.now _))
      · constructor
        · intro h; exact absurd h (by decide)
        · intro h; exact absurd h.2.1 hl
theorem uncommas_loop (ls : List ByteArray) (hl : ls.length ≤ 1099511627776) (d : Nat) : ∀ (out : List Int) (i : Int), 0 ≤ i → i ≤ (ls.length : Int) → (ls.length : Int) - i = d → (out.length : Int) = i →
    ∃ r, Ev (fun k => impl_uncommas.l0 k out ls (ls.length : Int) i) r ∧ Ev (fun k => spec_l25Read.l0 k out ls i) r ∧ r.length = ls.length := by
  induction d with
  | zero =>
    intro out i h0 h1 hd ho
    exact ⟨out, Ev.step (fun k => impl_uncommas.l0.eq_2 out ls _ i k) (ev_ite_neg (by omega) (Ev.now _)), Ev.step (fun k => spec_l25Read.l0.eq_2 out ls i k) (ev_ite_neg (by omega) (Ev.now _)), by omega⟩
  | succ d ih =>
    intro out i h0 h1 hd ho
    have hlt : i < (ls.length : Int) := by omega
    have hlim : out.length < 17592186044416 := by omega
    have hw : wrap64 (i + 1) = i + 1 := w64 (by omega) (by omega)
    obtain ⟨⟨n, ok⟩, q1, q2, _⟩ := readdecimal_same (rdOf ByteArray.empty ls i)
    by_cases hok : ok = true
    · obtain ⟨r, g1, g2, g3⟩ := ih (out ++ [n]) (i + 1) (by omega) (by omega) (by omega) (by rw [List.length_append]; simp only [List.length_cons, List.length_nil]; omega)
      refine ⟨r, ?_, ?_, g3⟩
      · refine Ev.step (fun k => impl_uncommas.l0.eq_2 out ls _ i k) (ev_ite_pos hlt (ev_ite_pos h0 (ev_ite_pos hlt (Ev.bind q1 (ev_ite_pos hok (ev_ite_pos hlim ?_))))))
        rw [hw]; exact g1
      · refine Ev.step (fun k => spec_l25Read.l0.eq_2 out ls i k) (ev_ite_pos hlt (ev_ite_pos h0 (Ev.bind q2 (ev_ite_pos hok (ev_ite_pos hlim ?_)))))
        rw [hw]; exact g2
    · obtain ⟨r, g1, g2, g3⟩ := ih (out ++ [(-1)]) (i + 1) (by omega) (by omega) (by omega) (by rw [List.length_append]; simp only [List.length_cons, List.length_nil]; omega)
      refine ⟨r, ?_, ?_, g3⟩
      · refine Ev.step (fun k => impl_uncommas.l0.eq_2 out ls _ i k) (ev_ite_pos hlt (ev_ite_pos h0 (ev_ite_pos hlt (Ev.bind q1 (ev_ite_neg hok (ev_ite_pos hlim ?_))))))
        rw [hw]; exact g1
      · refine Ev.step (fun k => spec_l25Read.l0.eq_2 out ls i k) (ev_ite_pos hlt (ev_ite_pos h0 (Ev.bind q2 (ev_ite_neg hok (ev_ite_pos hlim ?_)))))
        rw [hw]; exact g2
theorem uncommas_same (s : ByteArray) (hs : s.size ≤ 1099511627) : ∃ r, Ev (fun k => impl_uncommas.f k s) r ∧ Ev (fun k => spec_l25Read.f k s) r ∧ (r.length : Int) ≤ (s.size : Int) + 1 := by
  obtain ⟨ls, c1, c2, c3, _⟩ := cut_same s (by omega) 44
  obtain ⟨r, g1, g2, g3⟩ := uncommas_loop ls (by omega) ls.length [] 0 (by omega) (by omega) (by omega) rfl
  exact ⟨r, Ev.bind c1 g1, Ev.bind c2 g2, by omega⟩
/-- A list of small numbers, written with commas: by both alike, and not long. -/
theorem commas_loop (xs : List Int) (hx : xs.length ≤ 100) (m : Int) (hm : 0 ≤ m) (hm1 : m ≤ 1000) (he : ∀ i : Int, 0 ≤ i → i < (xs.length : Int) → rd xs i ≤ m) (d : Nat) : ∀ (t : ByteArray) (i : Int), 0 ≤ i → i ≤ (xs.length : Int) → (xs.length : Int) - i = d → (t.size : Int) ≤ (m + 2) * i →
    ∃ r, Ev (fun k => impl_commas.l0 k t xs (xs.length : Int) i) r ∧ Ev (fun k => spec_l25List.l0 k xs t i) r ∧ (r.size : Int) ≤ (m + 2) * (xs.length : Int) := by
  induction d with
  | zero =>
    intro t i h0 h1 hd ht
    have e : i = (xs.length : Int) := by omega
    exact ⟨t, Ev.step (fun k => impl_commas.l0.eq_2 t xs _ i k) (ev_ite_neg (by omega) (Ev.now _)), Ev.step (fun k => spec_l25List.l0.eq_2 xs t i k) (ev_ite_neg (by omega) (Ev.now _)), by rw [← e]; exact ht⟩
  | succ d ih =>
    intro t i h0 h1 hd ht
    have hlt : i < (xs.length : Int) := by omega
    have hw : wrap64 (i + 1) = i + 1 := w64 (by omega) (by omega)
    have hmul : (m + 2) * (i + 1) = (m + 2) * i + (m + 2) := by rw [Int.mul_add, Int.mul_one]
    have hbig : (m + 2) * i ≤ 1002 * 100 := Int.mul_le_mul (by omega) (by omega) (by omega) (by omega)
    have hxm := he i h0 hlt
    have c1 : (⟨#[44]⟩ : ByteArray).size = 1 := rfl
    have c2 : (⟨#[120]⟩ : ByteArray).size = 1 := rfl
    have h44 : (t ++ (⟨#[44]⟩ : ByteArray)).size = t.size + 1 := by rw [ByteArray.size_append, c1]
    by_cases hpos : i > 0
    · by_cases hneg : rd xs i < 0
      · obtain ⟨r, g1, g2, g3⟩ := ih ((t ++ (⟨#[44]⟩ : ByteArray)) ++ (⟨#[120]⟩ : ByteArray)) (i + 1) (by omega) (by omega) (by omega) (by rw [ByteArray.size_append, h44, c2, hmul]; omega)
        refine ⟨r, ?_, ?_, g3⟩
        · refine Ev.step (fun k => impl_commas.l0.eq_2 t xs _ i k) (ev_ite_pos hlt (ev_ite_pos h0 (ev_ite_pos hlt (ev_ite_pos hpos (ev_ite_pos (by omega) (ev_ite_pos hneg (ev_ite_pos (by rw [h44]; omega) ?_)))))))
          rw [hw]; exact g1
        · refine Ev.step (fun k => spec_l25List.l0.eq_2 xs t i k) (ev_ite_pos hlt (ev_ite_pos hpos (ev_ite_pos (by omega) (ev_ite_pos h0 (ev_ite_pos hneg (ev_ite_pos (by rw [h44]; omega) ?_))))))
          rw [hw]; exact g2
      · obtain ⟨s, q1, q2, q3⟩ := decimal_same (rd xs i) (by omega) (by omega)
        obtain ⟨r, g1, g2, g3⟩ := ih ((t ++ (⟨#[44]⟩ : ByteArray)) ++ s) (i + 1) (by omega) (by omega) (by omega) (by rw [ByteArray.size_append, h44, hmul]; omega)
        refine ⟨r, ?_, ?_, g3⟩
        · refine Ev.step (fun k => impl_commas.l0.eq_2 t xs _ i k) (ev_ite_pos hlt (ev_ite_pos h0 (ev_ite_pos hlt (ev_ite_pos hpos (ev_ite_pos (by omega) (ev_ite_neg hneg (Ev.bind q1 (ev_ite_pos (by rw [h44]; omega) ?_))))))))
          rw [hw]; exact g1
        · refine Ev.step (fun k => spec_l25List.l0.eq_2 xs t i k) (ev_ite_pos hlt (ev_ite_pos hpos (ev_ite_pos (by omega) (ev_ite_pos h0 (ev_ite_neg hneg (Ev.bind q2 (ev_ite_pos (by rw [h44]; omega) ?_)))))))
          rw [hw]; exact g2
    · by_cases hneg : rd xs i < 0
      · obtain ⟨r, g1, g2, g3⟩ := ih (t ++ (⟨#[120]⟩ : ByteArray)) (i + 1) (by omega) (by omega) (by omega) (by rw [ByteArray.size_append, c2, hmul]; omega)
        refine ⟨r, ?_, ?_, g3⟩
        · refine Ev.step (fun k => impl_commas.l0.eq_2 t xs _ i k) (ev_ite_pos hlt (ev_ite_pos h0 (ev_ite_pos hlt (ev_ite_neg hpos (ev_ite_pos hneg (ev_ite_pos (by omega) ?_))))))
          rw [hw]; exact g1
        · refine Ev.step (fun k => spec_l25List.l0.eq_2 xs t i k) (ev_ite_pos hlt (ev_ite_neg hpos (ev_ite_pos h0 (ev_ite_pos hneg (ev_ite_pos (by omega) ?_)))))
          rw [hw]; exact g2
      · obtain ⟨s, q1, q2, q3⟩ := decimal_same (rd xs i) (by omega) (by omega)
        obtain ⟨r, g1, g2, g3⟩ := ih (t ++ s) (i + 1) (by omega) (by omega) (by omega) (by rw [ByteArray.size_append, hmul]; omega)
        refine ⟨r, ?_, ?_, g3⟩
        · refine Ev.step (fun k => impl_commas.l0.eq_2 t xs _ i k) (ev_ite_pos hlt (ev_ite_pos h0 (ev_ite_pos hlt (ev_ite_neg hpos (ev_ite_neg hneg (Ev.bind q1 (ev_ite_pos (by omega) ?_)))))))
          rw [hw]; exact g1
        · refine Ev.step (fun k => spec_l25List.l0.eq_2 xs t i k) (ev_ite_pos hlt (ev_ite_neg hpos (ev_ite_pos h0 (ev_ite_neg hneg (Ev.bind q2 (ev_ite_pos (by omega) ?_))))))
          rw [hw]; exact g2
theorem commas_same (xs : List Int) (hx : xs.length ≤ 100) (m : Int) (hm : 0 ≤ m) (hm1 : m ≤ 1000) (he : ∀ i : Int, 0 ≤ i → i < (xs.length : Int) → rd xs i ≤ m) : ∃ r, Ev (fun k => impl_commas.f k xs) r ∧ Ev (fun k => spec_l25List.f k xs) r ∧ (r.size : Int) ≤ (m + 2) * (xs.length : Int) :=
  commas_loop xs hx m hm hm1 he xs.length ⟨#[]⟩ 0 (by omega) (by omega) (by omega) (by rw [show (⟨#[]⟩ : ByteArray).size = 0 from rfl]; omega)
theorem side_entry (l : List Int) (h : sideOk l = true) (i : Int) (h0 : 0 ≤ i) (h1 : i < (l.length : Int)) : 1 ≤ rd l i ∧ rd l i ≤ 8 := by
  simp only [sideOk, Bool.and_eq_true, List.all_eq_true] at h
  have hm : rd l i ∈ l := by
    unfold rd
    rw [List.getD_eq_getElem?_getD, List.getElem?_eq_getElem (by omega)]
    exact List.getElem_mem _
  have := h.2 _ hm
  simpa [inR] using this
theorem side_len (l : List Int) (h : sideOk l = true) : 1 ≤ l.length ∧ l.length ≤ 4 := by
  simp only [sideOk, Bool.and_eq_true, decide_eq_true_eq] at h
  exact h.1
/-- A layout's text: by both alike; where there is one, the layout is right and the text isn't long. -/
theorem layouttext_same (c r w : List Int) (hc : c.length ≤ 2097152) (hr : r.length ≤ 2097152) (hw : w.length ≤ 1099511627776) :
    ∃ t, Ev (fun k => impl_LayoutText.f k c r w) t ∧ Ev (fun k => spec_LayoutText.f k c r w) t ∧ (t.2 = true → t.1.size ≤ 200 ∧ LayP c r w) := by
  obtain ⟨b, g1, g2, g3⟩ := layoutOk_same c r w hc hr hw
  by_cases hb : b = true
  · have hp := g3.1 hb
    obtain ⟨hs1, hs2⟩ := levelFor_side c r hp.1
    have l1 := side_len c hs1
    have l2 := side_len r hs2
    have hwl : (w.length : Int) ≤ 16 := by
      rw [hp.2.1]
      have : (c.length : Int) * (r.length : Int) ≤ 4 * 4 := Int.mul_le_mul (by omega) (by omega) (by omega) (by omega)
      omega
    obtain ⟨t1, a1, a2, a3⟩ := commas_same c (by omega) 8 (by omega) (by omega) (fun i h0 h1 => (side_entry c hs1 i h0 h1).2)
    obtain ⟨t2, b1, b2, b3⟩ := commas_same r (by omega) 8 (by omega) (by omega) (fun i h0 h1 => (side_entry r hs2 i h0 h1).2)
    obtain ⟨t3, d1, d2, d3⟩ := commas_same w (by omega) 5 (by omega) (by omega) (fun i h0 h1 => (hp.2.2 i h0 h1).1.2)
    have c1 : (⟨#[47]⟩ : ByteArray).size = 1 := rfl
    have z1 : (t1 ++ (⟨#[47]⟩ : ByteArray)).size = t1.size + 1 := by rw [ByteArray.size_append, c1]
    have z2 : ((t1 ++ (⟨#[47]⟩ : ByteArray)) ++ t2).size = t1.size + 1 + t2.size := by rw [ByteArray.size_append, z1]
    have z3 : (((t1 ++ (⟨#[47]⟩ : ByteArray)) ++ t2) ++ (⟨#[47]⟩ : ByteArray)).size = t1.size + 1 + t2.size + 1 := by rw [ByteArray.size_append, z2, c1]
    refine ⟨((((t1 ++ (⟨#[47]⟩ : ByteArray)) ++ t2) ++ (⟨#[47]⟩ : ByteArray)) ++ t3, true), ?_, ?_, fun _ => ⟨by simp only; rw [ByteArray.size_append, z3]; omega, hp⟩⟩
    · exact Ev.bind g1 (ev_ite_pos hb (Ev.bind a1 (ev_ite_pos (by omega) (Ev.bind b1 (ev_ite_pos (by rw [z1]; omega) (ev_ite_pos (by rw [z2]; omega) (Ev.bind d1 (ev_ite_pos (by rw [z3]; omega) (Ev.now _)))))))))
    · exact Ev.bind g2 (ev_ite_pos hb (Ev.bind a2 (ev_ite_pos (by omega) (Ev.bind b2 (ev_ite_pos (by rw [z1]; omega) (ev_ite_pos (by rw [z2]; omega) (Ev.bind d2 (ev_ite_pos (by rw [z3]; omega) (Ev.now _)))))))))
  · exact ⟨(⟨#[]⟩, false), Ev.bind g1 (ev_ite_neg hb (Ev.now _)), Ev.bind g2 (ev_ite_neg hb (Ev.now _)), fun h => absurd h (by decide)⟩
theorem toList_size {a b : ByteArray} (h : a.toList = b.toList) : a.size = b.size := by
  rw [ByteArray.toList_eq, ByteArray.toList_eq] at h
  have := congrArg List.length h
  simpa using this
theorem rdOf_size (ls : List ByteArray) (n : Nat) (h : ∀ p ∈ ls, p.size ≤ n) (i : Int) : (rdOf ByteArray.empty ls i).size ≤ n := by
  unfold rdOf
  rw [List.getD_eq_getElem?_getD]
  by_cases hi : i.toNat < ls.length
  · rw [List.getElem?_eq_getElem hi]; exact h _ (List.getElem_mem _)
  · rw [List.getElem?_eq_none (by omega)]; exact Nat.zero_le _
theorem readlayout_same (s : ByteArray) (hs : s.size ≤ 1048576) : ∃ r, Ev (fun k => impl_ReadLayout.f k s) r ∧ Ev (fun k => spec_ReadLayout.f k s) r ∧ r.1.length ≤ 2097152 ∧ r.2.1.length ≤ 2097152 ∧ r.2.2.1.length ≤ 2097152 := by
  obtain ⟨ls, c1, c2, c3, c4, c5⟩ := cut_same s (by omega) 47
  have no : ([] : List Int).length ≤ 2097152 := by simp
  have small : ∀ i, (rdOf ByteArray.empty ls i).size ≤ 1048576 := fun i => Nat.le_trans (rdOf_size ls s.size c5 i) hs
  by_cases h3 : (ls.length : Int) = 3
  · obtain ⟨x, x1, x2, x3⟩ := uncommas_same (rdOf ByteArray.empty ls 0) (by have := small 0; omega)
    obtain ⟨y, y1, y2, y3⟩ := uncommas_same (rdOf ByteArray.empty ls 1) (by have := small 1; omega)
    obtain ⟨z, z1, z2, z3⟩ := uncommas_same (rdOf ByteArray.empty ls 2) (by have := small 2; omega)
    have s0 := small 0
    have s1 := small 1
    have s2 := small 2
    obtain ⟨⟨t, ok⟩, t1, t2, t3⟩ := layouttext_same x y z (by omega) (by omega) (by omega)
    have key : ∀ r, Ev (fun (_ : Nat) => if ok = true then (if t.toList = s.toList then some (x, y, z, true) else some (([] : List Int), ([] : List Int), ([] : List Int), false)) else some (([] : List Int), ([] : List Int), ([] : List Int), false)) r → Ev (fun k => impl_ReadLayout.f k s) r := fun r hr =>
      Ev.bind c1 (ev_ite_pos h3 (ev_ite_pos (by omega) (Ev.bind x1 (ev_ite_pos (by omega) (Ev.bind y1 (ev_ite_pos (by omega) (Ev.bind z1 (Ev.bind t1 hr))))))))
    by_cases hbig : (s.size : Int) > 200
    · refine ⟨([], [], [], false), key _ ?_, Ev.congr (fun k => if_pos hbig) (Ev.now _), no, no, no⟩
      by_cases hok : ok = true
      · refine ev_ite_pos hok (ev_ite_neg ?_ (Ev.now _))
        intro he
        have h1 := toList_size he
        have h2 := (t3 hok).1
        simp only at h2
        omega
      · exact ev_ite_neg hok (Ev.now _)
    · have key2 : ∀ r, Ev (fun (_ : Nat) => if ok = true then (if t.toList = s.toList then some (x, y, z, true) else some (([] : List Int), ([] : List Int), ([] : List Int), false)) else some (([] : List Int), ([] : List Int), ([] : List Int), false)) r → Ev (fun k => spec_ReadLayout.f k s) r := fun r hr =>
        Ev.congr (fun k => if_neg hbig) (Ev.bind c2 (ev_ite_pos h3 (ev_ite_pos (by omega) (Ev.bind x2 (ev_ite_pos (by omega) (Ev.bind y2 (ev_ite_pos (by omega) (Ev.bind z2 (Ev.bind t2 hr)))))))))
      have done : ∃ r, Ev (fun (_ : Nat) => if ok = true then (if t.toList = s.toList then some (x, y, z, true) else some (([] : List Int), ([] : List Int), ([] : List Int), false)) else some (([] : List Int), ([] : List Int), ([] : List Int), false)) r ∧ r.1.length ≤ 2097152 ∧ r.2.1.length ≤ 2097152 ∧ r.2.2.1.length ≤ 2097152 := by
        by_cases hok : ok = true
        · by_cases he : t.toList = s.toList
          · exact ⟨(x, y, z, true), ev_ite_pos hok (ev_ite_pos he (Ev.now _)), by simp only; omega, by simp only; omega, by simp only; omega⟩
          · exact ⟨([], [], [], false), ev_ite_pos hok (ev_ite_neg he (Ev.now _)), no, no, no⟩
        · exact ⟨([], [], [], false), ev_ite_neg hok (Ev.now _), no, no, no⟩
      obtain ⟨r, hr, hl⟩ := done
      exact ⟨r, key r hr, key2 r hr, hl⟩
  · refine ⟨([], [], [], false), Ev.bind c1 (ev_ite_neg h3 (Ev.now _)), ?_, no, no, no⟩
    by_cases hbig : (s.size : Int) > 200
    · exact Ev.congr (fun k => if_pos hbig) (Ev.now _)
    · exact Ev.congr (fun k => if_neg hbig) (Ev.bind c2 (ev_ite_neg h3 (Ev.now _)))
theorem eqlayout_self (x y z : List Int) (hx : x.length ≤ 1099511627776) (hy : y.length ≤ 1099511627776) (hz : z.length ≤ 1099511627776) : Ev (fun k => laws_eqLayout.f k x y z x y z) true :=
  Ev.bind (eqints_self x hx) (ev_ite_pos rfl (Ev.bind (eqints_self y hy) (ev_ite_pos rfl (Ev.bind (eqints_self z hz) (ev_ite_pos rfl (Ev.now _))))))
theorem marklayout_held (x y z : List Int) (hx : x.length ≤ 4194304) (hy : y.length ≤ 4194304) (hz : z.length ≤ 4194304) (K : Int) (hK : 0 ≤ K) (hK1 : K ≤ 1073741824) : ∃ m x' y' z', 0 ≤ m ∧ Ev (fun k => laws_markLayout.f k x y z K) (m, x', y', z') ∧ Ev (fun k => laws_heldLayout.f k x' y' z' K) m := by
  obtain ⟨x', a1, a2⟩ := markI_held x (by omega) K hK (by omega)
  obtain ⟨y', b1, b2⟩ := markI_held y (by omega) (K + (x.length : Int)) (by omega) (by omega)
  obtain ⟨z', c1, c2⟩ := markI_held z (by omega) (K + (x.length : Int) + (y.length : Int)) (by omega) (by omega)
  refine ⟨K + (x.length : Int) + (y.length : Int) + (z.length : Int), x', y', z', by omega, Ev.bind a1 (Ev.bind b1 (Ev.bind c1 (Ev.now _))), ?_⟩
  exact Ev.bind a2 (ev_ite_neg (by omega) (Ev.bind b2 (ev_ite_neg (by omega) (Ev.bind c2 (ev_ite_neg (by omega) (Ev.now _))))))
theorem FnExactReadLayout : laws_FnExactReadLayout.Pure := by
  intro s hs
  apply Ev.rounds
  by_cases h : (s.size : Int) > 1048576
  · exact ev_now' fun k => if_pos h
  · obtain ⟨⟨x, y, z, ok⟩, g1, g2, l1, l2, l3⟩ := readlayout_same s (by omega)
    simp only at l1 l2 l3
    have he := eqlayout_self x y z (by omega) (by omega) (by omega)
    obtain ⟨m, x', y', z', m0, m1, m2⟩ := marklayout_held x y z (by omega) (by omega) (by omega) 1 (by omega) (by omega)
    have hb : (ok != ok) = false := by simp
    refine Ev.congr (fun k => if_neg h) ?_
    refine Ev.bind g2 ?_
    refine Ev.bind g1 ?_
    refine Ev.bind he (ev_ite_pos rfl ?_)
    rw [hb]
    refine Ev.step (fun k => laws_FnExactReadLayout.j0.eq_2 s ok false x y z x y z k) (ev_ite_neg (by decide) ?_)
    refine Ev.bind m1 (Ev.bind m2 (ev_ite_neg (by omega) (ev_ite_pos rfl ?_)))
    refine Ev.bind g1 ?_
    refine Ev.bind he (ev_ite_pos rfl ?_)
    rw [hb]
    refine Ev.step (fun k => laws_FnExactReadLayout.j1.eq_2 m false x' y' z' k) (ev_ite_neg (by decide) ?_)
    exact Ev.bind m2 (ev_ite_neg (by omega) (ev_ite_pos rfl (Ev.now _)))
end Go.Proofs.Ytjmhhgnknjfnlaa.Pure
