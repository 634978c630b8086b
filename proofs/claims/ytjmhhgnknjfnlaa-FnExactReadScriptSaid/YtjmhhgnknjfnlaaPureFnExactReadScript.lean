/- The program's ReadScript and the reference's ReadScript give the same events, the same line and the same verdict at every text, and what a call gives is its own. No condition beyond the statement's own. -/
import Derived.Test.YtjmhhgnknjfnlaaPFnExactReadScriptx0
import Derived.Test.YtjmhhgnknjfnlaaPFnExactReadScriptx1
import Derived.Test.YtjmhhgnknjfnlaaPFnExactReadScriptx2
import Derived.Test.YtjmhhgnknjfnlaaPFnExactReadScriptx3
import Derived.Test.YtjmhhgnknjfnlaaPFnExactReadScriptx4
import Derived.Test.YtjmhhgnknjfnlaaPFnExactReadScriptx5
import Derived.Test.YtjmhhgnknjfnlaaPFnExactReadScriptx6
import Derived.Test.YtjmhhgnknjfnlaaPFnExactReadScriptx7
import Derived.Test.YtjmhhgnknjfnlaaPFnExactReadScriptx8
import Derived.Test.YtjmhhgnknjfnlaaPFnExactReadScriptx9
import Derived.Test.YtjmhhgnknjfnlaaPFnExactReadScriptx10
import Derived.Test.YtjmhhgnknjfnlaaPFnExactReadScriptx11
import Derived.Test.YtjmhhgnknjfnlaaPFnExactReadScriptx12
import Derived.Test.YtjmhhgnknjfnlaaPFnExactReadScriptx13
import Derived.Test.YtjmhhgnknjfnlaaPFnExactReadScriptx14
import Derived.Test.YtjmhhgnknjfnlaaPFnExactReadScriptx15
import Derived.Test.YtjmhhgnknjfnlaaPFnExactReadScriptx16
import Derived.Test.YtjmhhgnknjfnlaaPFnExactReadScriptx17
import Derived.Test.YtjmhhgnknjfnlaaPFnExactReadScriptx18
import Derived.Test.YtjmhhgnknjfnlaaPFnExactReadScriptx19
import Derived.Test.YtjmhhgnknjfnlaaPFnExactReadScriptx20
import Derived.Test.YtjmhhgnknjfnlaaPFnExactReadScriptx21
namespace Go.Proofs.Ytjmhhgnknjfnlaa.Pure
open Go.RowKit Go.Proofs.Ytjmhhgnknjfnlaa.PFnExactReadScript Go.Proofs.YtjmhhgnknjfnlaaW.PrintWords Go.Proofs.YtjmhhgnknjfnlaaW.PrintLast
set_option linter.unusedVariables false
set_option linter.unusedSimpArgs false
/-- Both programs cut a text alike, from a place on. -/
theorem w64 {x : Int} (h : -9223372036854775808 ≤ x) (h' : x ≤ 9223372036854775807) : wrap64 x = x := by unfold wrap64; omega
theorem ev_ite_pos {α : Type} {c : Prop} [Decidable c] {g f : Nat → Option α} {r : α} (h : c) (k : Ev g r) : Ev (fun n => if c then g n else f n) r := by simpa only [if_pos h] using k
theorem ev_ite_neg {α : Type} {c : Prop} [Decidable c] {g f : Nat → Option α} {r : α} (h : ¬ c) (k : Ev f r) : Ev (fun n => if c then g n else f n) r := by simpa only [if_neg h] using k
theorem ev_now' {α : Type} {g : Nat → Option α} {r : α} (h : ∀ k, g k = some r) : Ev g r := ⟨0, fun k _ => h k⟩
theorem ev_bind_some {α β : Type} {x : Option α} {a : α} {f : Nat → α → Option β} {r : β} (h : x = some a) (k : Ev (fun n => f n a) r) : Ev (fun n => x.bind (f n)) r := by subst h; simpa only [Option.bind_some] using k
theorem bt_bounds (s : ByteArray) (i : Int) : 0 ≤ bt s i ∧ bt s i ≤ 255 := bt_range s i
theorem size_ext (s : ByteArray) (a b : Nat) (h : a ≤ b) (hb : b ≤ s.size) : (s.extract a b).size = b - a := by rw [ByteArray.size_extract]; omega
theorem within_eq (a b c : Int) : impl_within.f a b c = some (decide (b ≤ a ∧ a ≤ c)) := by
  unfold impl_within.f
  by_cases h : a ≥ b
  · rw [if_pos h]; simp [show b ≤ a from h]
  · rw [if_neg h]; simp [show ¬ b ≤ a from h]
/-- Both loops over a line, from a place on: the same end. 'fr' is where a word began (-1: none is open), 'b' what the other program holds for it. -/
theorem parts_loop (s : ByteArray) (hs : s.size ≤ 600) (d : Nat) : ∀ (out : List ByteArray) (fr b i : Int), 0 ≤ i → i ≤ (s.size : Int) + 1 → (s.size : Int) + 1 - i = d → (out.length : Int) ≤ i →
    (fr = -1 ∧ (b = i ∨ (s.size : Int) < i) ∨ 0 ≤ fr ∧ fr < i ∧ b = fr ∧ i ≤ (s.size : Int)) → (∀ p ∈ out, 0 < p.size) →
    ∃ r, Ev (fun k => impl_PartsOf.l0 k s out fr i) r ∧ Ev (fun k => spec_PartsOf.l0 k s out b i) r ∧ (∀ p ∈ r.1, 0 < p.size) ∧ r.1.length ≤ 12 := by
  induction d with
  | zero =>
    intro out fr b i h0 h1 hd hl hf hp
    have hi : ¬ i ≤ (s.size : Int) := by omega
    by_cases hlen : (out.length : Int) > 12
    · refine ⟨([], false), ?_, ?_, by simp, by simp⟩
      · refine Ev.step (fun k => impl_PartsOf.l0.eq_2 s out fr i k) (ev_now' fun k => ?_)
        rw [if_neg hi, if_pos hlen]
      · refine Ev.step (fun k => spec_PartsOf.l0.eq_2 s out b i k) (ev_now' fun k => ?_)
        rw [if_neg hi, if_pos hlen]
    · refine ⟨(out, true), ?_, ?_, hp, by simp only; omega⟩
      · refine Ev.step (fun k => impl_PartsOf.l0.eq_2 s out fr i k) (ev_now' fun k => ?_)
        rw [if_neg hi, if_neg hlen]
      · refine Ev.step (fun k => spec_PartsOf.l0.eq_2 s out b i k) (ev_now' fun k => ?_)
        rw [if_neg hi, if_neg hlen]
  | succ d ih =>
    intro out fr b i h0 h1 hd hl hf hp
    have hi : i ≤ (s.size : Int) := by omega
    have hw : wrap64 (i + 1) = i + 1 := w64 (by omega) (by omega)
    -- where a word ends, or none was open
    have ends : ∃ r, Ev (fun k => if fr ≥ 0 then (if 0 ≤ fr then (if fr ≤ i then (if i ≤ (s.size : Int) then (if out.length < 8796093022208 then (impl_PartsOf.l0 k s (out ++ [s.extract (fr : Int).toNat (i : Int).toNat]) (-1) (wrap64 (i + 1))) else none) else none) else none) else none) else (impl_PartsOf.l0 k s out fr (wrap64 (i + 1)))) r ∧
        Ev (fun k => if b < i then (if 0 ≤ b then (if b ≤ i then (if i ≤ (s.size : Int) then (if out.length < 8796093022208 then (spec_PartsOf.l0 k s (out ++ [s.extract (b : Int).toNat (i : Int).toNat]) (wrap64 (i + 1)) (wrap64 (i + 1))) else none) else none) else none) else none) else (spec_PartsOf.l0 k s out (wrap64 (i + 1)) (wrap64 (i + 1)))) r ∧ (∀ p ∈ r.1, 0 < p.size) ∧ r.1.length ≤ 12 := by
      rw [hw]
      rcases hf with ⟨rfl, hb⟩ | ⟨hf0, hf1, rfl, hf3⟩
      · obtain ⟨r, h, h', h2, h3⟩ := ih out (-1) (i + 1) (i + 1) (by omega) (by omega) (by omega) (by omega) (.inl ⟨rfl, .inl rfl⟩) hp
        exact ⟨r, ev_ite_neg (by omega) h, ev_ite_neg (by omega) h', h2, h3⟩
      · obtain ⟨r, h, h', h2, h3⟩ := ih (out ++ [s.extract (b : Int).toNat (i : Int).toNat]) (-1) (i + 1) (i + 1) (by omega) (by omega) (by omega) (by rw [List.length_append]; simp only [List.length_cons, List.length_nil]; omega) (.inl ⟨rfl, .inl rfl⟩) (by
          intro p hq
          rcases List.mem_append.1 hq with hq | hq
          · exact hp p hq
          · rw [List.mem_singleton.1 hq, size_ext s _ _ (by omega) (by omega)]; omega)
        have hlim : out.length < 8796093022208 := by omega
        exact ⟨r, ev_ite_pos hf0 (ev_ite_pos hf0 (ev_ite_pos (by omega) (ev_ite_pos hi (ev_ite_pos hlim h)))), ev_ite_pos hf1 (ev_ite_pos hf0 (ev_ite_pos (by omega) (ev_ite_pos hi (ev_ite_pos hlim h')))), h2, h3⟩
    by_cases hlt : i < (s.size : Int)
    · have hb := bt_bounds s i
      have hwb : wrap64 (bt s i) = bt s i := w64 (by omega) (by omega)
      by_cases hr : 32 ≤ bt s i ∧ bt s i ≤ 126
      · by_cases hsp : bt s i = 32
        · -- a blank
          obtain ⟨r, h, h', h2, h3⟩ := ends
          refine ⟨r, ?_, ?_, h2, h3⟩
          · refine Ev.step (fun k => impl_PartsOf.l0.eq_2 s out fr i k) (ev_ite_pos hi (ev_ite_pos hlt (ev_ite_pos h0 (ev_bind_some (within_eq _ _ _) ?_))))
            refine Ev.step (fun k => impl_PartsOf.j1.eq_2 s out fr i _ k) ?_
            rw [hwb]
            refine ev_ite_neg (by simp [hr]) (ev_ite_neg (by omega) (ev_ite_pos h0 (ev_ite_pos hlt ?_)))
            refine Ev.step (fun k => impl_PartsOf.j2.eq_2 s out fr i _ k) (ev_ite_pos (by simp [hsp]) ?_)
            refine Ev.step (fun k => impl_PartsOf.j3.eq_2 s out fr i _ _ k) (ev_ite_neg (by simp) (ev_ite_pos (by simp [hsp]) h))
          · refine Ev.step (fun k => spec_PartsOf.l0.eq_2 s out b i k) (ev_ite_pos hi (ev_ite_pos hlt (ev_ite_pos h0 (ev_ite_neg (by omega) ?_))))
            refine Ev.step (fun k => spec_PartsOf.j1.eq_2 s out b i _ k) (ev_ite_neg (by simp; omega) (ev_ite_pos hlt (ev_ite_pos h0 ?_)))
            refine Ev.step (fun k => spec_PartsOf.j2.eq_2 s out b i _ k) (ev_ite_neg (by simp [hsp]) h')
        · -- a sign of a word
          obtain ⟨r, h, h', h2, h3⟩ := ih out (if fr < 0 then i else fr) b (i + 1) (by omega) (by omega) (by omega) (by omega) (by
            rcases hf with ⟨rfl, hb⟩ | ⟨hf0, hf1, rfl, hf3⟩
            · rw [if_pos (by omega)]; right; omega
            · rw [if_neg (by omega)]; right; omega) hp
          refine ⟨r, ?_, ?_, h2, h3⟩
          · refine Ev.step (fun k => impl_PartsOf.l0.eq_2 s out fr i k) (ev_ite_pos hi (ev_ite_pos hlt (ev_ite_pos h0 (ev_bind_some (within_eq _ _ _) ?_))))
            refine Ev.step (fun k => impl_PartsOf.j1.eq_2 s out fr i _ k) ?_
            rw [hwb]
            refine ev_ite_neg (by simp [hr]) (ev_ite_neg (by omega) (ev_ite_pos h0 (ev_ite_pos hlt ?_)))
            refine Ev.step (fun k => impl_PartsOf.j2.eq_2 s out fr i _ k) (ev_ite_neg (by simp [hsp]) ?_)
            refine Ev.step (fun k => impl_PartsOf.j3.eq_2 s out fr i _ _ k) ?_
            rw [hw]
            by_cases hneg : fr < 0
            · rw [if_pos hneg] at h
              exact ev_ite_pos (by simp [hneg]) (ev_ite_neg (by simp [hsp]) h)
            · rw [if_neg hneg] at h
              exact ev_ite_neg (by simp [hneg]) (ev_ite_neg (by simp [hsp]) h)
          · refine Ev.step (fun k => spec_PartsOf.l0.eq_2 s out b i k) (ev_ite_pos hi (ev_ite_pos hlt (ev_ite_pos h0 (ev_ite_neg (by omega) ?_))))
            refine Ev.step (fun k => spec_PartsOf.j1.eq_2 s out b i _ k) (ev_ite_neg (by simp; omega) (ev_ite_pos hlt (ev_ite_pos h0 ?_)))
            refine Ev.step (fun k => spec_PartsOf.j2.eq_2 s out b i _ k) (ev_ite_pos (by simp [hsp]) ?_)
            rw [hw]; exact h'
      · -- a byte that no line has
        refine ⟨([], false), ?_, ?_, by simp, by simp⟩
        · refine Ev.step (fun k => impl_PartsOf.l0.eq_2 s out fr i k) (ev_ite_pos hi (ev_ite_pos hlt (ev_ite_pos h0 (ev_bind_some (within_eq _ _ _) ?_))))
          refine Ev.step (fun k => impl_PartsOf.j1.eq_2 s out fr i _ k) ?_
          rw [hwb]
          exact ev_ite_pos (by simp [hr]) (Ev.now _)
        · by_cases hlow : bt s i < 32
          · refine Ev.step (fun k => spec_PartsOf.l0.eq_2 s out b i k) (ev_ite_pos hi (ev_ite_pos hlt (ev_ite_pos h0 (ev_ite_pos hlow ?_))))
            refine Ev.step (fun k => spec_PartsOf.j1.eq_2 s out b i _ k) (ev_ite_pos rfl (Ev.now _))
          · refine Ev.step (fun k => spec_PartsOf.l0.eq_2 s out b i k) (ev_ite_pos hi (ev_ite_pos hlt (ev_ite_pos h0 (ev_ite_neg hlow ?_))))
            refine Ev.step (fun k => spec_PartsOf.j1.eq_2 s out b i _ k) (ev_ite_pos (by simp; omega) (Ev.now _))
    · -- the end of the line
      have he : i = (s.size : Int) := by omega
      obtain ⟨r, h, h', h2, h3⟩ := ends
      refine ⟨r, ?_, ?_, h2, h3⟩
      · refine Ev.step (fun k => impl_PartsOf.l0.eq_2 s out fr i k) (ev_ite_pos hi (ev_ite_neg hlt ?_))
        refine Ev.step (fun k => impl_PartsOf.j1.eq_2 s out fr i _ k) (ev_ite_neg (by simp) (ev_ite_pos he ?_))
        refine Ev.step (fun k => impl_PartsOf.j2.eq_2 s out fr i _ k) (ev_ite_pos rfl ?_)
        exact Ev.step (fun k => impl_PartsOf.j3.eq_2 s out fr i _ _ k) (ev_ite_neg (by simp) (ev_ite_pos rfl h))
      · refine Ev.step (fun k => spec_PartsOf.l0.eq_2 s out b i k) (ev_ite_pos hi (ev_ite_neg hlt ?_))
        refine Ev.step (fun k => spec_PartsOf.j1.eq_2 s out b i _ k) (ev_ite_neg (by simp) (ev_ite_neg hlt ?_))
        exact Ev.step (fun k => spec_PartsOf.j2.eq_2 s out b i _ k) (ev_ite_neg (by simp) h')
theorem parts_same (s : ByteArray) : ∃ r, Ev (fun k => impl_PartsOf.f k s) r ∧ Ev (fun k => spec_PartsOf.f k s) r ∧ (∀ p ∈ r.1, 0 < p.size) ∧ r.1.length ≤ 12 := by
  by_cases h : (s.size : Int) > 600
  · refine ⟨([], false), ev_now' fun k => ?_, ev_now' fun k => ?_, by simp, by simp⟩
    · unfold impl_PartsOf.f; rw [if_pos h]
    · unfold spec_PartsOf.f; rw [Option.bind_some, if_pos h]
  · obtain ⟨r, h1, h2, h3⟩ := parts_loop s (by omega) (s.size + 1) [] (-1) 0 0 (by omega) (by omega) (by omega) (by simp) (.inl ⟨rfl, .inl rfl⟩) (by simp)
    refine ⟨r, Ev.congr (fun k => ?_) h1, Ev.congr (fun k => ?_) h2, h3⟩
    · unfold impl_PartsOf.f; rw [if_neg h]
    · unfold spec_PartsOf.f; rw [Option.bind_some, if_neg h]
theorem tmod_nn {x : Int} (h : 0 ≤ x) : Int.tmod x 10 = x % 10 := Int.tmod_eq_emod_of_nonneg h
theorem tdiv_nn {x : Int} (h : 0 ≤ x) : Int.tdiv x 10 = x / 10 := Int.tdiv_eq_ediv_of_nonneg h
theorem figure_at : ∀ d : Nat, d < 10 → (⟨#[48, 49, 50, 51, 52, 53, 54, 55, 56, 57, 97, 98, 99, 100, 101, 102]⟩ : ByteArray).extract d (d + 1) = strOfNums [(48 + (d : Int))] := by decide
/-- One figure put ahead: both programs put the same byte. -/
theorem figure_same (m : Int) (h0 : 0 ≤ m) (h1 : m < 10) : (⟨#[48, 49, 50, 51, 52, 53, 54, 55, 56, 57, 97, 98, 99, 100, 101, 102]⟩ : ByteArray).extract (m : Int).toNat ((m + 1) : Int).toNat = strOfNums [(48 + m)] := by
  have h := figure_at m.toNat (by omega)
  rw [show ((m + 1) : Int).toNat = m.toNat + 1 by omega]
  rw [h]; congr 2; omega
theorem figure_size : ∀ d : Nat, d < 10 → (strOfNums [(48 + (d : Int))]).size = 1 := by decide
theorem decimal_loop (n : Int) (hn : 0 ≤ n) (d : Nat) : ∀ (x : Int) (t : ByteArray), 0 ≤ x → x ≤ d → x ≤ 4000000000000000000 → (t.size : Int) + x ≤ 4000000000000000000 →
    ∃ r, Ev (fun k => impl_Decimal.l0 k n t x) r ∧ Ev (fun k => spec_Decimal.l0 k x (decide (n < 0)) t) r ∧ (r.size : Int) ≤ t.size + x := by
  induction d with
  | zero =>
    intro x t h0 hd hm hs
    obtain rfl : x = 0 := by omega
    refine ⟨t, ?_, ?_, by omega⟩
    · exact Ev.step (fun k => impl_Decimal.l0.eq_2 n t 0 k) (ev_ite_pos rfl (ev_ite_neg (by omega) (Ev.now _)))
    · exact Ev.step (fun k => spec_Decimal.l0.eq_2 0 _ t k) (ev_ite_pos rfl (ev_ite_neg (by simp; omega) (Ev.now _)))
  | succ d ih =>
    intro x t h0 hd hm hs
    by_cases hx : x = 0
    · subst hx
      refine ⟨t, ?_, ?_, by omega⟩
      · exact Ev.step (fun k => impl_Decimal.l0.eq_2 n t 0 k) (ev_ite_pos rfl (ev_ite_neg (by omega) (Ev.now _)))
      · exact Ev.step (fun k => spec_Decimal.l0.eq_2 0 _ t k) (ev_ite_pos rfl (ev_ite_neg (by simp; omega) (Ev.now _)))
    · have hm1 : mx (Int.tmod x 10) (wrap64 (-(Int.tmod x 10))) = x % 10 := by
        rw [tmod_nn h0, w64 (by omega) (by omega)]; unfold mx; split <;> omega
      have hb : 0 ≤ x % 10 ∧ x % 10 < 10 := by omega
      have hw1 : wrap64 (x % 10 + 1) = x % 10 + 1 := w64 (by omega) (by omega)
      have hw2 : wrap64 (Int.tdiv x 10) = x / 10 := by rw [tdiv_nn h0]; exact w64 (by omega) (by omega)
      have hfs : (strOfNums [(48 + x % 10)]).size = 1 := by
        have h := figure_size (x % 10).toNat (by omega)
        rw [show (((x % 10).toNat : Nat) : Int) = x % 10 by omega] at h; exact h
      have hsz : (strOfNums [(48 + x % 10)] ++ t).size = 1 + t.size := by rw [ByteArray.size_append, hfs]
      obtain ⟨r, h1, h2, h3⟩ := ih (x / 10) (strOfNums [(48 + x % 10)] ++ t) (by omega) (by omega) (by omega) (by rw [hsz]; omega)
      refine ⟨r, ?_, ?_, by rw [hsz] at h3; omega⟩
      · refine Ev.step (fun k => impl_Decimal.l0.eq_2 n t x k) (ev_ite_neg hx ?_)
        rw [hm1, hw1, figure_same _ hb.1 hb.2, hw2]
        exact ev_ite_pos hb.1 (ev_ite_pos (by omega) (ev_ite_pos (by omega) (ev_ite_pos (by rw [hfs]; omega) h1)))
      · refine Ev.step (fun k => spec_Decimal.l0.eq_2 x _ t k) (ev_ite_neg hx (ev_ite_neg (by rw [tmod_nn h0]; omega) ?_))
        rw [tmod_nn h0, hw2]
        refine ev_bind_some (a := 48 + x % 10) ?_ (ev_bind_some rfl (ev_ite_pos (by rw [hfs]; omega) h2))
        unfold spec_l01Figure.f
        rw [if_pos (by omega), w64 (by omega) (by omega)]; congr 1; omega
/-- What both programs write for a number that isn't negative. -/
theorem decimal_same (n : Int) (h : 0 ≤ n) (h1 : n ≤ 4000000000000000000) : ∃ r, Ev (fun k => impl_Decimal.f k n) r ∧ Ev (fun k => spec_Decimal.f k n) r ∧ (r.size : Int) ≤ n + 1 := by
  by_cases h0 : n = 0
  · subst h0
    exact ⟨⟨#[48]⟩, ev_now' fun k => by unfold impl_Decimal.f; rw [if_pos rfl], ev_now' fun k => by unfold spec_Decimal.f; rw [if_pos rfl], by decide⟩
  · obtain ⟨r, h1, h2, h3⟩ := decimal_loop n h n.toNat n ⟨#[]⟩ h (by omega) h1 (by rw [show (⟨#[]⟩ : ByteArray).size = 0 from rfl]; omega)
    refine ⟨r, Ev.congr (fun k => ?_) h1, Ev.congr (fun k => ?_) h2, by rw [show (⟨#[]⟩ : ByteArray).size = 0 from rfl] at h3; omega⟩
    · unfold impl_Decimal.f; rw [if_neg h0]
    · unfold spec_Decimal.f; rw [if_neg h0]
theorem p10 (i : Int) (h : i ≤ 10) : (10 : Int) ^ i.toNat ≤ 10000000000 := by
  have h1 : 10 ^ i.toNat ≤ 10 ^ 10 := Nat.pow_le_pow_right (by omega) (by omega)
  have h2 : (((10 ^ i.toNat : Nat)) : Int) ≤ ((10 ^ 10 : Nat) : Int) := Int.ofNat_le.2 h1
  rw [Int.natCast_pow] at h2
  exact h2
theorem readdecimal_loop (s : ByteArray) (hs : s.size ≤ 10) (d : Nat) : ∀ (n i : Int), 0 ≤ i → i ≤ s.size → (s.size : Int) - i = d → 0 ≤ n → n < 10 ^ (i.toNat) →
    ∃ r, Ev (fun k => impl_ReadDecimal.l0 k s n i) r ∧ Ev (fun k => spec_ReadDecimal.l0 k s n i) r ∧ (r.2 = false → r.1 = 0) ∧ 0 ≤ r.1 ∧ r.1 ≤ 1000000000 := by
  induction d with
  | zero =>
    intro n i h0 h1 hd hn hn1
    have hlt : ¬ i < (s.size : Int) := by omega
    have hp := p10 i (by omega)
    by_cases hbig : n > 1000000000
    · refine ⟨(0, false), ?_, ?_, by simp, by simp, by simp⟩
      · exact Ev.step (fun k => impl_ReadDecimal.l0.eq_2 s n i k) (ev_ite_neg hlt (ev_ite_pos hbig (Ev.now _)))
      · exact Ev.step (fun k => spec_ReadDecimal.l0.eq_2 s n i k) (ev_ite_neg hlt (ev_ite_pos hbig (Ev.now _)))
    · obtain ⟨t, h1, h2, _⟩ := decimal_same n hn (by omega)
      by_cases ht : t.toList = s.toList
      · refine ⟨(n, true), ?_, ?_, by simp, hn, by simp only; omega⟩
        · exact Ev.step (fun k => impl_ReadDecimal.l0.eq_2 s n i k) (ev_ite_neg hlt (ev_ite_neg hbig (Ev.bind h1 (ev_ite_pos ht (Ev.now _)))))
        · exact Ev.step (fun k => spec_ReadDecimal.l0.eq_2 s n i k) (ev_ite_neg hlt (ev_ite_neg hbig (Ev.bind h2 (ev_ite_pos ht (Ev.now _)))))
      · refine ⟨(0, false), ?_, ?_, by simp, by simp, by simp⟩
        · exact Ev.step (fun k => impl_ReadDecimal.l0.eq_2 s n i k) (ev_ite_neg hlt (ev_ite_neg hbig (Ev.bind h1 (ev_ite_neg ht (Ev.now _)))))
        · exact Ev.step (fun k => spec_ReadDecimal.l0.eq_2 s n i k) (ev_ite_neg hlt (ev_ite_neg hbig (Ev.bind h2 (ev_ite_neg ht (Ev.now _)))))
  | succ d ih =>
    intro n i h0 h1 hd hn hn1
    have hlt : i < (s.size : Int) := by omega
    have hb := bt_bounds s i
    have hp := p10 i (by omega)
    have hw : wrap64 (i + 1) = i + 1 := w64 (by omega) (by omega)
    by_cases hlo : bt s i < 48
    · refine ⟨(0, false), ?_, ?_, by simp, by simp, by simp⟩
      · exact Ev.step (fun k => impl_ReadDecimal.l0.eq_2 s n i k) (ev_ite_pos hlt (ev_ite_pos h0 (ev_ite_pos hlo (Ev.now _))))
      · exact Ev.step (fun k => spec_ReadDecimal.l0.eq_2 s n i k) (ev_ite_pos hlt (ev_ite_pos h0 (ev_ite_pos hlo (Ev.now _))))
    · by_cases hhi : bt s i > 57
      · refine ⟨(0, false), ?_, ?_, by simp, by simp, by simp⟩
        · exact Ev.step (fun k => impl_ReadDecimal.l0.eq_2 s n i k) (ev_ite_pos hlt (ev_ite_pos h0 (ev_ite_neg hlo (ev_ite_pos hhi (Ev.now _)))))
        · exact Ev.step (fun k => spec_ReadDecimal.l0.eq_2 s n i k) (ev_ite_pos hlt (ev_ite_pos h0 (ev_ite_neg hlo (ev_ite_pos hhi (Ev.now _)))))
      · have e1 : wrap64 (10 * n) = 10 * n := w64 (by omega) (by omega)
        have e2 : (bt s i - 48) % 256 = bt s i - 48 := by omega
        have e3 : wrap64 (10 * n + (bt s i - 48)) = 10 * n + (bt s i - 48) := w64 (by omega) (by omega)
        have e4 : wrap64 (bt s i) = bt s i := w64 (by omega) (by omega)
        have e5 : wrap64 (10 * n + bt s i) = 10 * n + bt s i := w64 (by omega) (by omega)
        have e6 : wrap64 (10 * n + bt s i - 48) = 10 * n + (bt s i - 48) := by rw [w64 (by omega) (by omega)]; omega
        have hpow : (10 : Int) ^ (i + 1).toNat = 10 * 10 ^ i.toNat := by rw [show (i + 1).toNat = i.toNat + 1 by omega, Int.pow_succ]; omega
        obtain ⟨r, h1, h2, h3⟩ := ih (10 * n + (bt s i - 48)) (i + 1) (by omega) (by omega) (by omega) (by omega) (by omega)
        refine ⟨r, ?_, ?_, h3⟩
        · refine Ev.step (fun k => impl_ReadDecimal.l0.eq_2 s n i k) (ev_ite_pos hlt (ev_ite_pos h0 (ev_ite_neg hlo (ev_ite_neg hhi ?_))))
          rw [e1, e2, e3, hw]; exact h1
        · refine Ev.step (fun k => spec_ReadDecimal.l0.eq_2 s n i k) (ev_ite_pos hlt (ev_ite_pos h0 (ev_ite_neg hlo (ev_ite_neg hhi ?_))))
          rw [e1, e4, e5, e6, hw]; exact h2
/-- What both programs read out of a text, told apart by the empty one. -/
theorem readdecimal_same (s : ByteArray) : ∃ r, Ev (fun k => impl_ReadDecimal.f k s) r ∧ Ev (fun k => spec_ReadDecimal.f k s) r ∧ (r.2 = false → r.1 = 0) ∧ 0 ≤ r.1 ∧ r.1 ≤ 1000000000 := by
  by_cases h : (s.size : Int) > 10
  · refine ⟨(0, false), ev_now' fun k => ?_, ev_now' fun k => ?_, by simp, by simp, by simp⟩
    · unfold impl_ReadDecimal.f; rw [within_eq, Option.bind_some, if_neg (by simp; omega)]
    · unfold spec_ReadDecimal.f; rw [if_pos h]
  · obtain ⟨r, h1, h2, h3, h4⟩ := readdecimal_loop s (by omega) s.size 0 0 (by omega) (by omega) (by omega) (by omega) (by decide)
    by_cases h0 : s.size = 0
    · have hlt : ¬ (0 : Int) < (s.size : Int) := by omega
      have hd : ∀ k, spec_Decimal.f k 0 = some (⟨#[48]⟩ : ByteArray) := fun k => by unfold spec_Decimal.f; rw [if_pos rfl]
      have hne : ¬ (⟨#[48]⟩ : ByteArray).toList = s.toList := by
        intro he
        have hs : s = ⟨#[]⟩ := by
          obtain ⟨a⟩ := s
          have ha : a = #[] := Array.eq_empty_of_size_eq_zero h0
          rw [ha]
        rw [hs, ByteArray.toList_eq, ByteArray.toList_eq] at he
        simp at he
      refine ⟨(0, false), ev_now' fun k => ?_, ?_, by simp, by simp, by simp⟩
      · unfold impl_ReadDecimal.f; rw [within_eq, Option.bind_some, if_neg (by simp; omega)]
      · refine Ev.congr (fun k => if_neg h) ?_
        refine Ev.step (fun k => spec_ReadDecimal.l0.eq_2 s 0 0 k) ?_
        refine ev_ite_neg hlt ?_
        refine ev_ite_neg (by omega) ?_
        refine Ev.bind (ev_now' hd) ?_
        exact ev_ite_neg hne (Ev.now _)
    · refine ⟨r, Ev.congr (fun k => ?_) h1, Ev.congr (fun k => ?_) h2, h3, h4⟩
      · unfold impl_ReadDecimal.f; rw [within_eq, Option.bind_some, if_pos (by simp; omega)]
      · unfold spec_ReadDecimal.f; rw [if_neg h]
theorem word_same (x : Int) : spec_l33Word.f x = impl_wordOf.f x := rfl
theorem word_is (x : Int) : ∃ s n, impl_wordOf.f x = some (s, n) ∧ 0 ≤ n ∧ n ≤ 3 := by
  unfold impl_wordOf.f
  repeat' split
  all_goals exact ⟨_, _, rfl, by omega, by omega⟩
theorem rdOf_drop (xs : List ByteArray) (i : Int) (h : 0 ≤ i) : rdOf ByteArray.empty (xs.drop 1) i = rdOf ByteArray.empty xs (i + 1) := by
  unfold rdOf
  rw [List.getD_eq_getElem?_getD, List.getD_eq_getElem?_getD, List.getElem?_drop, show 1 + i.toNat = (i + 1).toNat by omega]
/-- The numbers of an event, from number i on. -/
theorem numbers_loop (xs : List ByteArray) (kind n : Int) (h0 : 0 ≤ n) (h3 : n ≤ 3) (hlen : (xs.length : Int) = n + 1) (d : Nat) : ∀ (i a b c : Int), 0 ≤ i → i ≤ n → n - i = d →
    ∃ r, Ev (fun k => impl_ReadEvent.l1 k xs kind (xs.drop 1) ((xs.drop 1).length : Int) i a b c) r ∧ Ev (fun k => spec_ReadEvent.l1 k xs n i kind a b c) r := by
  have hl : (((xs.drop 1).length : Nat) : Int) = n := by rw [List.length_drop]; omega
  induction d with
  | zero =>
    intro i a b c hi hin hd
    refine ⟨(kind, a, b, c, true), ?_, ?_⟩
    · exact Ev.step (fun k => impl_ReadEvent.l1.eq_2 xs kind (xs.drop 1) _ i a b c k) (ev_ite_neg (by omega) (Ev.now _))
    · exact Ev.step (fun k => spec_ReadEvent.l1.eq_2 xs n i kind a b c k) (ev_ite_neg (by omega) (Ev.now _))
  | succ d ih =>
    intro i a b c hi hin hd
    have hw : wrap64 (i + 1) = i + 1 := w64 (by omega) (by omega)
    obtain ⟨⟨x, ok⟩, g1, g2, _⟩ := readdecimal_same (rdOf ByteArray.empty xs (i + 1))
    have key : ∃ r, Ev (fun k => if ok = true then (if i = 0 then (impl_ReadEvent.l1 k xs kind (xs.drop 1) ((xs.drop 1).length : Int) (wrap64 (i + 1)) x b c) else (if i = 1 then (impl_ReadEvent.l1 k xs kind (xs.drop 1) ((xs.drop 1).length : Int) (wrap64 (i + 1)) a x c) else (if i = 2 then (impl_ReadEvent.l1 k xs kind (xs.drop 1) ((xs.drop 1).length : Int) (wrap64 (i + 1)) a b x) else none))) else some (0, 0, 0, 0, false)) r ∧
        Ev (fun k => if ok = true then (if i = 0 then (spec_ReadEvent.l1 k xs n (wrap64 (i + 1)) kind x b c) else (if i = 1 then (spec_ReadEvent.l1 k xs n (wrap64 (i + 1)) kind a x c) else (spec_ReadEvent.l1 k xs n (wrap64 (i + 1)) kind a b x))) else some (0, 0, 0, 0, false)) r := by
      rw [hw]
      by_cases hok : ok = true
      · by_cases e0 : i = 0
        · obtain ⟨r, h1, h2⟩ := ih (i + 1) x b c (by omega) (by omega) (by omega)
          exact ⟨r, ev_ite_pos hok (ev_ite_pos e0 h1), ev_ite_pos hok (ev_ite_pos e0 h2)⟩
        · by_cases e1 : i = 1
          · obtain ⟨r, h1, h2⟩ := ih (i + 1) a x c (by omega) (by omega) (by omega)
            exact ⟨r, ev_ite_pos hok (ev_ite_neg e0 (ev_ite_pos e1 h1)), ev_ite_pos hok (ev_ite_neg e0 (ev_ite_pos e1 h2))⟩
          · obtain ⟨r, h1, h2⟩ := ih (i + 1) a b x (by omega) (by omega) (by omega)
            exact ⟨r, ev_ite_pos hok (ev_ite_neg e0 (ev_ite_neg e1 (ev_ite_pos (by omega) h1))), ev_ite_pos hok (ev_ite_neg e0 (ev_ite_neg e1 h2))⟩
      · exact ⟨(0, 0, 0, 0, false), ev_ite_neg hok (Ev.now _), ev_ite_neg hok (Ev.now _)⟩
    obtain ⟨r, k1, k2⟩ := key
    refine ⟨r, ?_, ?_⟩
    · refine Ev.step (fun k => impl_ReadEvent.l1.eq_2 xs kind (xs.drop 1) _ i a b c k) (ev_ite_pos (by omega) (ev_ite_pos hi (ev_ite_pos (by omega) ?_)))
      rw [rdOf_drop xs i hi]
      exact Ev.bind g1 k1
    · refine Ev.step (fun k => spec_ReadEvent.l1.eq_2 xs n i kind a b c k) (ev_ite_pos (by omega) ?_)
      rw [hw]
      rw [hw] at k2
      exact ev_ite_pos (by omega) (ev_ite_pos (by omega) (Ev.bind g2 k2))
/-- The kinds, from one on. -/
theorem kinds_loop (xs : List ByteArray) (hx : 0 < xs.length) (hx1 : xs.length ≤ 12) (d : Nat) : ∀ kind : Int, 1 ≤ kind → kind ≤ 10 → 10 - kind = d →
    ∃ r, Ev (fun k => impl_ReadEvent.l0 k xs kind) r ∧ Ev (fun k => spec_ReadEvent.l0 k xs kind) r := by
  induction d with
  | zero =>
    intro kind h1 h2 hd
    refine ⟨(0, 0, 0, 0, false), ?_, ?_⟩
    · exact Ev.step (fun k => impl_ReadEvent.l0.eq_2 xs kind k) (ev_ite_neg (by omega) (Ev.now _))
    · exact Ev.step (fun k => spec_ReadEvent.l0.eq_2 xs kind k) (ev_ite_neg (by omega) (Ev.now _))
  | succ d ih =>
    intro kind h1 h2 hd
    have hw : wrap64 (kind + 1) = kind + 1 := w64 (by omega) (by omega)
    obtain ⟨s, n, hs, hn0, hn3⟩ := word_is kind
    have hw1 : wrap64 ((xs.length : Int) - 1) = (xs.length : Int) - 1 := w64 (by omega) (by omega)
    have hw2 : wrap64 (n + 1) = n + 1 := w64 (by omega) (by omega)
    have next : ∃ r, Ev (fun k => impl_ReadEvent.j2 k xs kind true) r ∧ Ev (fun k => spec_ReadEvent.j2 k xs kind n true) r := by
      obtain ⟨r, g1, g2⟩ := ih (kind + 1) (by omega) (by omega) (by omega)
      refine ⟨r, ?_, ?_⟩
      · exact Ev.step (fun k => impl_ReadEvent.j2.eq_2 xs kind true k) (ev_ite_pos rfl (by rw [hw]; exact g1))
      · exact Ev.step (fun k => spec_ReadEvent.j2.eq_2 xs kind n true k) (ev_ite_pos rfl (by rw [hw]; exact g2))
    have hit : ∃ r, Ev (fun k => if s.toList = (rdOf ByteArray.empty xs 0).toList then (impl_ReadEvent.j2 k xs kind (n != (wrap64 ((xs.length : Int) - 1)))) else (impl_ReadEvent.j2 k xs kind true)) r ∧
        Ev (fun k => if s.toList = (rdOf ByteArray.empty xs 0).toList then (spec_ReadEvent.j2 k xs kind n ((xs.length : Int) != (wrap64 (n + 1)))) else (spec_ReadEvent.j2 k xs kind n true)) r := by
      by_cases he : s.toList = (rdOf ByteArray.empty xs 0).toList
      · rw [hw1, hw2]
        by_cases hlen : (xs.length : Int) = n + 1
        · obtain ⟨r, g1, g2⟩ := numbers_loop xs kind n hn0 hn3 hlen n.toNat 0 0 0 0 (by omega) hn0 (by omega)
          have b1 : (n != (xs.length : Int) - 1) = false := by rw [bne_eq_false_iff_eq]; omega
          have b2 : ((xs.length : Int) != n + 1) = false := by rw [bne_eq_false_iff_eq]; omega
          refine ⟨r, ev_ite_pos he ?_, ev_ite_pos he ?_⟩
          · rw [b1]
            exact Ev.step (fun k => impl_ReadEvent.j2.eq_2 xs kind false k) (ev_ite_neg (by decide) (ev_ite_pos (by omega) (ev_bind_some rfl g1)))
          · rw [b2]
            exact Ev.step (fun k => spec_ReadEvent.j2.eq_2 xs kind n false k) (ev_ite_neg (by decide) g2)
        · have b1 : (n != (xs.length : Int) - 1) = true := by rw [bne_iff_ne]; omega
          have b2 : ((xs.length : Int) != n + 1) = true := by rw [bne_iff_ne]; omega
          obtain ⟨r, g1, g2⟩ := next
          exact ⟨r, ev_ite_pos he (by rw [b1]; exact g1), ev_ite_pos he (by rw [b2]; exact g2)⟩
      · obtain ⟨r, g1, g2⟩ := next
        exact ⟨r, ev_ite_neg he g1, ev_ite_neg he g2⟩
    obtain ⟨r, g1, g2⟩ := hit
    refine ⟨r, ?_, ?_⟩
    · exact Ev.step (fun k => impl_ReadEvent.l0.eq_2 xs kind k) (ev_ite_pos (by omega) (ev_bind_some hs (ev_ite_pos (by omega) g1)))
    · exact Ev.step (fun k => spec_ReadEvent.l0.eq_2 xs kind k) (ev_ite_pos (by omega) (ev_bind_some ((word_same kind).trans hs) (ev_ite_pos (by omega) g2)))
/-- The program's ReadEvent and the reference's: the same event, the same verdict. -/
theorem readevent_same (s : ByteArray) : ∃ r, Ev (fun k => impl_ReadEvent.f k s) r ∧ Ev (fun k => spec_ReadEvent.f k s) r := by
  obtain ⟨⟨xs, ok⟩, g1, g2, hp, hl⟩ := parts_same s
  have none_ : ∃ r, Ev (fun k => impl_ReadEvent.j0 k xs true) r ∧ Ev (fun k => spec_ReadEvent.j0 k xs true) r :=
    ⟨(0, 0, 0, 0, false), Ev.step (fun k => impl_ReadEvent.j0.eq_2 xs true k) (ev_ite_pos rfl (Ev.now _)), Ev.step (fun k => spec_ReadEvent.j0.eq_2 xs true k) (ev_ite_pos rfl (Ev.now _))⟩
  have key : ∃ r, Ev (fun k => if ok = true then (impl_ReadEvent.j0 k xs ((xs.length : Int) == 0)) else (impl_ReadEvent.j0 k xs true)) r ∧ Ev (fun k => if ok = true then (spec_ReadEvent.j0 k xs ((xs.length : Int) == 0)) else (spec_ReadEvent.j0 k xs true)) r := by
    by_cases hok : ok = true
    · by_cases h0 : (xs.length : Int) = 0
      · obtain ⟨r, h1, h2⟩ := none_
        have b : ((xs.length : Int) == 0) = true := beq_iff_eq.2 h0
        exact ⟨r, ev_ite_pos hok (by rw [b]; exact h1), ev_ite_pos hok (by rw [b]; exact h2)⟩
      · obtain ⟨r, h1, h2⟩ := kinds_loop xs (by omega) hl 9 1 (by omega) (by omega) (by omega)
        have b : ((xs.length : Int) == 0) = false := beq_eq_false_iff_ne.2 h0
        refine ⟨r, ev_ite_pos hok ?_, ev_ite_pos hok ?_⟩
        · rw [b]; exact Ev.step (fun k => impl_ReadEvent.j0.eq_2 xs false k) (ev_ite_neg (by decide) h1)
        · rw [b]; exact Ev.step (fun k => spec_ReadEvent.j0.eq_2 xs false k) (ev_ite_neg (by decide) h2)
    · obtain ⟨r, h1, h2⟩ := none_
      exact ⟨r, ev_ite_neg hok h1, ev_ite_neg hok h2⟩
  obtain ⟨r, h1, h2⟩ := key
  exact ⟨r, Ev.bind g1 h1, Ev.bind g2 h2⟩
theorem cut_loop (s : ByteArray) (hs : s.size ≤ 1099511627776) (by_ : Int) (d : Nat) : ∀ (out : List ByteArray) (fr i : Int), 0 ≤ fr → fr ≤ i → i ≤ (s.size : Int) → (s.size : Int) - i = d → (out.length : Int) ≤ i →
    ∃ r, Ev (fun k => impl_cut.l0 k s by_ out fr i) r ∧ Ev (fun k => spec_l25Cut.l0 k s by_ out fr i) r ∧ (r.length : Int) ≤ (s.size : Int) + 1 ∧ 0 < r.length := by
  induction d with
  | zero =>
    intro out fr i h0 h1 h2 hd hl
    have hi : i = (s.size : Int) := by omega
    have hw : wrap64 (i + 1) = i + 1 := w64 (by omega) (by omega)
    have hlim : out.length < 8796093022208 := by omega
    have ht : (i : Int).toNat = s.size := by omega
    refine ⟨out ++ [s.extract (fr : Int).toNat s.size], ?_, ?_, by simp; omega, by simp⟩
    · exact Ev.step (fun k => impl_cut.l0.eq_2 s by_ out fr i k) (ev_ite_neg (by omega) (ev_ite_pos h0 (ev_ite_pos (by omega) (ev_ite_pos hlim (Ev.now _)))))
    · refine Ev.step (fun k => spec_l25Cut.l0.eq_2 s by_ out fr i k) (ev_ite_pos h2 (ev_ite_pos hi (ev_ite_pos h0 (ev_ite_pos h1 (ev_ite_pos hlim ?_)))))
      rw [hw, ht]
      exact Ev.step (fun k => spec_l25Cut.l0.eq_2 s by_ _ (i + 1) (i + 1) k) (ev_ite_neg (by omega) (Ev.now _))
  | succ d ih =>
    intro out fr i h0 h1 h2 hd hl
    have hlt : i < (s.size : Int) := by omega
    have hw : wrap64 (i + 1) = i + 1 := w64 (by omega) (by omega)
    have hlim : out.length < 8796093022208 := by omega
    by_cases hb : bt s i = by_
    · obtain ⟨r, g1, g2, g3⟩ := ih (out ++ [s.extract (fr : Int).toNat (i : Int).toNat]) (i + 1) (i + 1) (by omega) (by omega) (by omega) (by omega) (by rw [List.length_append]; simp only [List.length_cons, List.length_nil]; omega)
      refine ⟨r, ?_, ?_, g3⟩
      · refine Ev.step (fun k => impl_cut.l0.eq_2 s by_ out fr i k) (ev_ite_pos hlt (ev_ite_pos (by omega) (ev_ite_pos hb (ev_ite_pos h0 (ev_ite_pos h1 (ev_ite_pos h2 (ev_ite_pos hlim ?_)))))))
        rw [hw]; exact g1
      · refine Ev.step (fun k => spec_l25Cut.l0.eq_2 s by_ out fr i k) (ev_ite_pos h2 (ev_ite_neg (by omega) (ev_ite_pos (by omega) (ev_ite_pos hlt (ev_ite_pos hb (ev_ite_pos h0 (ev_ite_pos h1 (ev_ite_pos hlim ?_))))))))
        rw [hw]; exact g2
    · obtain ⟨r, g1, g2, g3⟩ := ih out fr (i + 1) h0 (by omega) (by omega) (by omega) (by omega)
      refine ⟨r, ?_, ?_, g3⟩
      · refine Ev.step (fun k => impl_cut.l0.eq_2 s by_ out fr i k) (ev_ite_pos hlt (ev_ite_pos (by omega) (ev_ite_neg hb ?_)))
        rw [hw]; exact g1
      · refine Ev.step (fun k => spec_l25Cut.l0.eq_2 s by_ out fr i k) (ev_ite_pos h2 (ev_ite_neg (by omega) (ev_ite_pos (by omega) (ev_ite_pos hlt (ev_ite_neg hb ?_)))))
        rw [hw]; exact g2
theorem cut_same (s : ByteArray) (hs : s.size ≤ 1099511627776) (by_ : Int) : ∃ r, Ev (fun k => impl_cut.f k s by_) r ∧ Ev (fun k => spec_l25Cut.f k s by_) r ∧ (r.length : Int) ≤ (s.size : Int) + 1 ∧ 0 < r.length :=
  cut_loop s hs by_ s.size [] 0 0 (by omega) (by omega) (by omega) (by omega) (by simp)
theorem eqevent_self (a b c e : Int) : laws_eqEvent.f a b c e a b c e = some true := by unfold laws_eqEvent.f; simp
theorem eqevents_loop (xs : List S29) (hx : xs.length ≤ 1099511627776) (d : Nat) : ∀ i : Int, 0 ≤ i → i ≤ (xs.length : Int) → (xs.length : Int) - i = d → Ev (fun k => laws_eqEventS.l0 k xs xs i) true := by
  induction d with
  | zero =>
    intro i h0 h1 hd
    exact Ev.step (fun k => laws_eqEventS.l0.eq_2 xs xs i k) (ev_ite_neg (by omega) (Ev.now _))
  | succ d ih =>
    intro i h0 h1 hd
    have hlt : i < (xs.length : Int) := by omega
    have hw : wrap64 (i + 1) = i + 1 := w64 (by omega) (by omega)
    refine Ev.step (fun k => laws_eqEventS.l0.eq_2 xs xs i k) (ev_ite_pos hlt (ev_ite_pos h0 (ev_ite_pos hlt (ev_bind_some (eqevent_self _ _ _ _) (ev_ite_pos rfl ?_)))))
    rw [hw]; exact ih (i + 1) (by omega) (by omega) (by omega)
theorem eqevents_self (xs : List S29) (hx : xs.length ≤ 1099511627776) : Ev (fun k => laws_eqEventS.f k xs xs) true := by
  refine Ev.congr (fun k => if_pos rfl) ?_
  exact eqevents_loop xs hx xs.length 0 (by omega) (by omega) (by omega)
theorem rd_ev_set (xs : List S29) (i j : Int) (v : S29) (h0 : 0 ≤ i) (h1 : i < (xs.length : Int)) (hj : 0 ≤ j) : rd_T29 (xs.set (i : Int).toNat v) j = if j = i then v else rd_T29 xs j := by
  unfold rd_T29
  rw [List.getD_eq_getElem?_getD, List.getD_eq_getElem?_getD, List.getElem?_set]
  by_cases h : j = i
  · subst h; rw [if_pos rfl, if_pos rfl, if_pos (by omega)]; rfl
  · rw [if_neg (by omega), if_neg h]
/-- The marks that a row of events bears: four numbers an event, from K on. -/
def Marked (xs : List S29) (K n : Int) : Prop := ∀ j : Int, 0 ≤ j → j < n → rd_T29 xs j = ⟨K + 4 * j, K + 4 * j + 1, K + 4 * j + 2, K + 4 * j + 3⟩
theorem mark_loop (K : Int) (hK : 0 ≤ K) (hK1 : K ≤ 1099511627776) (d : Nat) : ∀ (xs : List S29) (i : Int), xs.length ≤ 1099511627776 → 0 ≤ i → i ≤ (xs.length : Int) → (xs.length : Int) - i = d → Marked xs K i →
    ∃ ys, Ev (fun k => laws_markEventS.l0 k xs (K + 4 * i) i) (K + 4 * (xs.length : Int), ys) ∧ ys.length = xs.length ∧ Marked ys K (xs.length : Int) := by
  induction d with
  | zero =>
    intro xs i hx h0 h1 hd hm
    have e : i = (xs.length : Int) := by omega
    refine ⟨xs, ?_, rfl, by rw [e] at hm; exact hm⟩
    refine Ev.step (fun k => laws_markEventS.l0.eq_2 xs _ i k) (ev_ite_neg (by omega) ?_)
    rw [e]; exact Ev.now _
  | succ d ih =>
    intro xs i hx h0 h1 hd hm
    have hlt : i < (xs.length : Int) := by omega
    have hw : wrap64 (i + 1) = i + 1 := w64 (by omega) (by omega)
    have e1 : wrap64 (K + 4 * i + 1) = K + 4 * i + 1 := w64 (by omega) (by omega)
    have e2 : wrap64 (K + 4 * i + 1 + 1) = K + 4 * i + 2 := by rw [w64 (by omega) (by omega)]; omega
    have e3 : wrap64 (K + 4 * i + 2 + 1) = K + 4 * i + 3 := by rw [w64 (by omega) (by omega)]; omega
    have e4 : wrap64 (K + 4 * i + 3 + 1) = K + 4 * (i + 1) := by rw [w64 (by omega) (by omega)]; omega
    obtain ⟨ys, g1, g2, g3⟩ := ih (xs.set (i : Int).toNat ⟨K + 4 * i, K + 4 * i + 1, K + 4 * i + 2, K + 4 * i + 3⟩) (i + 1) (by rw [List.length_set]; exact hx) (by omega) (by rw [List.length_set]; omega) (by rw [List.length_set]; omega) (by
      intro j hj0 hj1
      rw [rd_ev_set xs i j _ h0 hlt hj0]
      by_cases hj : j = i
      · subst hj; rw [if_pos rfl]
      · rw [if_neg hj]; exact hm j hj0 (by omega))
    rw [List.length_set] at g1 g2 g3
    refine ⟨ys, ?_, g2, g3⟩
    refine Ev.step (fun k => laws_markEventS.l0.eq_2 xs _ i k) (ev_ite_pos hlt (ev_ite_pos h0 ?_))
    refine ev_bind_some rfl (ev_bind_some rfl (ev_bind_some rfl ?_))
    have hs : ∀ (zs : List S29) (v : S29), zs.length = xs.length → rd_T29 (zs.set (i : Int).toNat v) i = v := fun zs v hz => by rw [rd_ev_set zs i i v h0 (by rw [hz]; exact hlt) h0, if_pos rfl]
    simp only [List.set_set, hs xs _ rfl, e1, e2, e3, e4, hw]
    exact g1
theorem marks_held (xs : List S29) (K : Int) (hK : 0 ≤ K) (hK1 : K ≤ 1099511627776) (hx : xs.length ≤ 1099511627776) (hm : Marked xs K (xs.length : Int)) (d : Nat) : ∀ i : Int, 0 ≤ i → i ≤ (xs.length : Int) → (xs.length : Int) - i = d →
    Ev (fun k => laws_heldEventS.l0 k xs (K + 4 * i) i) (K + 4 * (xs.length : Int)) := by
  induction d with
  | zero =>
    intro i h0 h1 hd
    have e : i = (xs.length : Int) := by omega
    refine Ev.step (fun k => laws_heldEventS.l0.eq_2 xs _ i k) (ev_ite_neg (by omega) ?_)
    rw [e]; exact Ev.now _
  | succ d ih =>
    intro i h0 h1 hd
    have hlt : i < (xs.length : Int) := by omega
    have hw : wrap64 (i + 1) = i + 1 := w64 (by omega) (by omega)
    have e1 : wrap64 (K + 4 * i + 1) = K + 4 * i + 1 := w64 (by omega) (by omega)
    have e2 : wrap64 (K + 4 * i + 1 + 1) = K + 4 * i + 2 := by rw [w64 (by omega) (by omega)]; omega
    have e3 : wrap64 (K + 4 * i + 2 + 1) = K + 4 * i + 3 := by rw [w64 (by omega) (by omega)]; omega
    have e4 : wrap64 (K + 4 * i + 3 + 1) = K + 4 * (i + 1) := by rw [w64 (by omega) (by omega)]; omega
    refine Ev.step (fun k => laws_heldEventS.l0.eq_2 xs _ i k) ?_
    rw [e1, e2, e3, e4, hw, hm i h0 hlt]
    exact ev_ite_pos hlt (ev_ite_pos h0 (ev_ite_pos rfl (ev_ite_pos rfl (ev_ite_pos rfl (ev_ite_pos rfl (ih (i + 1) (by omega) (by omega) (by omega)))))))
/-- Marked, a row holds its marks, and the count behind them is the same. -/
theorem mark_held (xs : List S29) (hx : xs.length ≤ 1099511627776) (K : Int) (hK : 0 ≤ K) (hK1 : K ≤ 1099511627776) : ∃ ys, Ev (fun k => laws_markEventS.f k xs K) (K + 4 * (xs.length : Int), ys) ∧ Ev (fun k => laws_heldEventS.f k ys K) (K + 4 * (xs.length : Int)) := by
  obtain ⟨ys, g1, g2, g3⟩ := mark_loop K hK hK1 xs.length xs 0 hx (by omega) (by omega) (by omega) (fun j h h' => by omega)
  have g4 := marks_held ys K hK hK1 (by omega) (by rw [g2]; exact g3) ys.length 0 (by omega) (by omega) (by omega)
  rw [g2] at g4
  rw [show K + 4 * (0 : Int) = K by omega] at g1 g4
  exact ⟨ys, g1, g4⟩
theorem script_loop (ls : List ByteArray) (hl : ls.length ≤ 20001) (d : Nat) : ∀ (out : List S29) (i : Int), 0 ≤ i → i ≤ (ls.length : Int) → (ls.length : Int) - i = d → (out.length : Int) ≤ i →
    ∃ r, Ev (fun k => impl_ReadScript.l0 k out ls ls (ls.length : Int) i) r ∧ Ev (fun k => spec_ReadScript.l0 k out ls i) r ∧ r.1.length ≤ 20001 := by
  induction d with
  | zero =>
    intro out i h0 h1 hd ho
    have hlt : ¬ i < (ls.length : Int) := by omega
    by_cases hb : (out.length : Int) > 60
    · refine ⟨([], 0, false), ?_, ?_, by simp⟩
      · exact Ev.step (fun k => impl_ReadScript.l0.eq_2 out ls ls _ i k) (ev_ite_neg hlt (ev_ite_pos hb (Ev.now _)))
      · exact Ev.step (fun k => spec_ReadScript.l0.eq_2 out ls i k) (ev_ite_neg hlt (ev_ite_pos hb (Ev.now _)))
    · refine ⟨(out, (ls.length : Int), true), ?_, ?_, by simp only; omega⟩
      · exact Ev.step (fun k => impl_ReadScript.l0.eq_2 out ls ls _ i k) (ev_ite_neg hlt (ev_ite_neg hb (Ev.now _)))
      · exact Ev.step (fun k => spec_ReadScript.l0.eq_2 out ls i k) (ev_ite_neg hlt (ev_ite_neg hb (Ev.now _)))
  | succ d ih =>
    intro out i h0 h1 hd ho
    have hlt : i < (ls.length : Int) := by omega
    have hw : wrap64 (i + 1) = i + 1 := w64 (by omega) (by omega)
    obtain ⟨⟨ps, ok⟩, p1, p2, p3, p4⟩ := parts_same (rdOf ByteArray.empty ls i)
    obtain ⟨⟨a, b, c, e, fine⟩, q1, q2⟩ := readevent_same (rdOf ByteArray.empty ls i)
    have skip : ∃ r, Ev (fun k => impl_ReadScript.j1 k out ls i (rdOf ByteArray.empty ls i) ls (ls.length : Int) i true) r ∧ Ev (fun k => spec_ReadScript.j1 k out ls i true) r ∧ r.1.length ≤ 20001 := by
      obtain ⟨r, g1, g2, g3⟩ := ih out (i + 1) (by omega) (by omega) (by omega) (by omega)
      refine ⟨r, ?_, ?_, g3⟩
      · refine Ev.step (fun k => impl_ReadScript.j1.eq_2 out ls i _ ls _ i true k) (ev_ite_pos rfl ?_)
        rw [hw]; exact g1
      · refine Ev.step (fun k => spec_ReadScript.j1.eq_2 out ls i true k) (ev_ite_pos rfl ?_)
        rw [hw]; exact g2
    have take_ : ∃ r, Ev (fun k => impl_ReadScript.j1 k out ls i (rdOf ByteArray.empty ls i) ls (ls.length : Int) i false) r ∧ Ev (fun k => spec_ReadScript.j1 k out ls i false) r ∧ r.1.length ≤ 20001 := by
      by_cases hf : fine = true
      · obtain ⟨r, g1, g2, g3⟩ := ih (out ++ [(⟨a, b, c, e⟩ : S29)]) (i + 1) (by omega) (by omega) (by omega) (by rw [List.length_append]; simp only [List.length_cons, List.length_nil]; omega)
        have hlim : out.length < 4398046511104 := by omega
        refine ⟨r, ?_, ?_, g3⟩
        · refine Ev.step (fun k => impl_ReadScript.j1.eq_2 out ls i _ ls _ i false k) (ev_ite_neg (by decide) (Ev.bind q1 (ev_ite_pos hf (ev_ite_pos hlim ?_))))
          rw [hw]; exact g1
        · refine Ev.step (fun k => spec_ReadScript.j1.eq_2 out ls i false k) (ev_ite_neg (by decide) (ev_ite_pos h0 (ev_ite_pos hlt (Ev.bind q2 (ev_ite_pos hf (ev_ite_pos hlim ?_))))))
          rw [hw]; exact g2
      · refine ⟨([], wrap64 (i + 1), false), ?_, ?_, by simp⟩
        · exact Ev.step (fun k => impl_ReadScript.j1.eq_2 out ls i _ ls _ i false k) (ev_ite_neg (by decide) (Ev.bind q1 (ev_ite_neg hf (Ev.now _))))
        · exact Ev.step (fun k => spec_ReadScript.j1.eq_2 out ls i false k) (ev_ite_neg (by decide) (ev_ite_pos h0 (ev_ite_pos hlt (Ev.bind q2 (ev_ite_neg hf (Ev.now _))))))
    have both : ∀ t : Bool, ∃ r, Ev (fun k => impl_ReadScript.j1 k out ls i (rdOf ByteArray.empty ls i) ls (ls.length : Int) i t) r ∧ Ev (fun k => spec_ReadScript.j1 k out ls i t) r ∧ r.1.length ≤ 20001 := fun t => by
      cases t
      · exact take_
      · exact skip
    by_cases hok : ok = true
    · by_cases hn : (ps.length : Int) = 0
      · obtain ⟨r, g1, g2, g3⟩ := both true
        refine ⟨r, ?_, ?_, g3⟩
        · exact Ev.step (fun k => impl_ReadScript.l0.eq_2 out ls ls _ i k) (ev_ite_pos hlt (ev_ite_pos h0 (ev_ite_pos hlt (Ev.bind p1 (ev_ite_pos hok (ev_ite_pos hn g1))))))
        · exact Ev.step (fun k => spec_ReadScript.l0.eq_2 out ls i k) (ev_ite_pos hlt (ev_ite_pos h0 (Ev.bind p2 (ev_ite_pos hok (ev_ite_pos hn g2)))))
      · have hp0 : 0 < (ps.length : Int) := by omega
        have hsz : 0 < ((rdOf ByteArray.empty ps 0).size : Int) := by
          have := p3 (rdOf ByteArray.empty ps 0) (by
            unfold rdOf
            rw [List.getD_eq_getElem?_getD, List.getElem?_eq_getElem (by omega)]
            exact List.getElem_mem _)
          omega
        obtain ⟨r, g1, g2, g3⟩ := both ((bt (rdOf ByteArray.empty ps 0) 0) == 35)
        refine ⟨r, ?_, ?_, g3⟩
        · exact Ev.step (fun k => impl_ReadScript.l0.eq_2 out ls ls _ i k) (ev_ite_pos hlt (ev_ite_pos h0 (ev_ite_pos hlt (Ev.bind p1 (ev_ite_pos hok (ev_ite_neg hn (ev_ite_pos hp0 (ev_ite_pos hsz g1))))))))
        · exact Ev.step (fun k => spec_ReadScript.l0.eq_2 out ls i k) (ev_ite_pos hlt (ev_ite_pos h0 (Ev.bind p2 (ev_ite_pos hok (ev_ite_neg hn (ev_ite_pos hp0 (ev_ite_pos hsz g2)))))))
    · obtain ⟨r, g1, g2, g3⟩ := both false
      refine ⟨r, ?_, ?_, g3⟩
      · exact Ev.step (fun k => impl_ReadScript.l0.eq_2 out ls ls _ i k) (ev_ite_pos hlt (ev_ite_pos h0 (ev_ite_pos hlt (Ev.bind p1 (ev_ite_neg hok g1)))))
      · exact Ev.step (fun k => spec_ReadScript.l0.eq_2 out ls i k) (ev_ite_pos hlt (ev_ite_pos h0 (Ev.bind p2 (ev_ite_neg hok g2))))
theorem readscript_same (s : ByteArray) : ∃ r, Ev (fun k => impl_ReadScript.f k s) r ∧ Ev (fun k => spec_ReadScript.f k s) r ∧ r.1.length ≤ 20001 := by
  by_cases h : (s.size : Int) > 20000
  · refine ⟨([], 0, false), ?_, ?_, by simp⟩
    · exact ev_bind_some rfl (ev_ite_pos h (Ev.now _))
    · exact ev_bind_some rfl (ev_ite_pos h (Ev.now _))
  · obtain ⟨ls, c1, c2, c3, c4⟩ := cut_same s (by omega) 10
    obtain ⟨r, g1, g2, g3⟩ := script_loop ls (by omega) ls.length [] 0 (by omega) (by omega) (by omega) (by simp)
    refine ⟨r, ?_, ?_, g3⟩
    · exact ev_bind_some rfl (ev_ite_neg h (Ev.bind c1 g1))
    · exact ev_bind_some rfl (ev_ite_neg h (Ev.bind c2 g2))
theorem FnExactReadScript : laws_FnExactReadScript.Pure := by
  intro s hs
  apply Ev.rounds
  by_cases h : (s.size : Int) > 1048576
  · exact ev_now' fun k => if_pos h
  · obtain ⟨⟨xs, n, ok⟩, g1, g2, g3⟩ := readscript_same s
    have hx : xs.length ≤ 1099511627776 := by simp only at g3; omega
    obtain ⟨ys, m1, m2⟩ := mark_held xs hx 1 (by omega) (by omega)
    refine Ev.congr (fun k => if_neg h) ?_
    refine Ev.bind g2 ?_
    refine Ev.bind g1 ?_
    refine Ev.bind (eqevents_self xs hx) (ev_ite_pos rfl (ev_ite_pos rfl ?_))
    have hb : (ok != ok) = false := by simp
    rw [hb]
    refine Ev.step (fun k => laws_FnExactReadScript.j0.eq_2 s xs n ok xs false k) (ev_ite_neg (by decide) ?_)
    refine Ev.bind m1 (Ev.bind m2 (ev_ite_neg (by omega) (ev_ite_pos rfl ?_)))
    refine Ev.bind g1 ?_
    refine Ev.bind (eqevents_self xs hx) (ev_ite_pos rfl (ev_ite_pos rfl ?_))
    rw [hb]
    refine Ev.step (fun k => laws_FnExactReadScript.j1.eq_2 ys _ false k) (ev_ite_neg (by decide) ?_)
    exact Ev.bind m2 (ev_ite_neg (by omega) (ev_ite_pos rfl (Ev.now _)))
end Go.Proofs.Ytjmhhgnknjfnlaa.Pure
