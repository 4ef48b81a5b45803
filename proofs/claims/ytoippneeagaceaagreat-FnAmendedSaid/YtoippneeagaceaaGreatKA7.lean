/- Contracts and plain laws of functions of the given program: texts of this session, joined. -/
import Derived.ArgAppend
import Derived.Below
import Derived.BigQuiet
import Derived.Deep.AppendLies
import Derived.Deep.CutBlock
import Derived.Deep.DeepCutAuto
import Derived.Deep.Draws
import Derived.Deep.LoopGhost
import Derived.Deep.OwnRows
import Derived.Deep.QuietTactic
import Derived.Deep.RegionHeld3
import Derived.KernelRfl
import Derived.Laws.BitsLemmas
import Derived.Laws.BytesArg
import Derived.Laws.IdiomCopy
import Derived.Laws.MakeOwn
import Derived.Laws.OwnMore
import Derived.Laws.Rows
import Derived.Laws.Slices
import Derived.Laws.StructEq
import Derived.Lib.AppendStr
import Derived.Lib.ConvBytes
import Derived.Maps.AppendAt
import Derived.OrdersHeld
import Derived.OwnWalk
import Derived.RowKit
import Derived.RowKit3
import Derived.Tactics
import Derived.Test.YtoippneeagaceaaGreatKA3
import Derived.Test.YtoippneeagaceaaGreatKA1
import Derived.Test.YtoippneeagaceaaGreatKA2
import Derived.Test.YtoippneeagaceaaGreatProg
import Derived.WalkKit
import Derived.WideLaws
import Derived.BigCall
import Derived.BigGuard
import Derived.CellFam
import Derived.Deep.Cut
import Derived.Deep.RegionHeld
import Derived.Deep.RegionWith
import Derived.Laws.Bits64
import Derived.Laws.Bits64b
import Derived.Lib.Strings
import Derived.Lib.Walk
import Derived.Maps.OwnSet
import Derived.RegionTactic
import Derived.Shelf.Abstract
import Derived.Shelf.Slices.CompactI
import Derived.Shelf.Small.Bits
import Derived.Shelf.Strconv.Itoa0
import Derived.Sort.AssemblyPlain
import Derived.Sort.AtCall
import Derived.Sort.EncStr
import Derived.Sort.Grow
import Derived.Sort.LotA
import Derived.Sort.LotB
import Derived.Sort.LotC
import Derived.Sort.LotD1
import Derived.Sort.LotD3
import Derived.Sort.LotD4
import Derived.Sort.LotD5
import Derived.Sort.Row
import Derived.Sort.Walk13a
import Derived.Test.YtoippneeagaceaaGreatKA4
import Derived.Test.YtoippneeagaceaaGreatKA5
import Derived.Test.YtoippneeagaceaaGreatKA6
import Derived.WideKeyEntry
import Derived.ChangeSlices
import Derived.SizedLaws
namespace Go.Proofs.YtoippneeagaceaaGreat.PR
open Go.RowKit Go.Proofs.YtoippneeagaceaaGreatW.PrintWords Go.Proofs.YtoippneeagaceaaGreatW.PrintLast Go.Proofs.YtoippneeagaceaaGreatW.PrintMore
theorem wrap_u64 (n : Int) : IntKind.u64.wrap n = n % 18446744073709551616 := by simp [IntKind.wrap, IntKind.bits, IntKind.signed]
theorem wraps_u64 (n : Int) (h0 : 0 ≤ n) (h1 : n < 2 ^ 64) : IntKind.u64.wrap n = n := by rw [wrap_u64]; omega
theorem u64_range (n : Int) : 0 ≤ IntKind.u64.wrap n ∧ IntKind.u64.wrap n < 18446744073709551616 := by rw [wrap_u64]; omega
theorem and255 (y : Int) : 0 ≤ wrap64 (Go.bits .and .u64 (IntKind.u64.wrap y / 1099511627776) 255) ∧ wrap64 (Go.bits .and .u64 (IntKind.u64.wrap y / 1099511627776) 255) ≤ 255 := by
  have h := u64_range y
  generalize IntKind.u64.wrap y = z at h ⊢
  have e : Go.bits .and .u64 (z / 1099511627776) 255 = (z / 1099511627776) % 256 :=
    bits_mask .u64 64 (by decide) wraps_u64 8 (by decide) (z / 1099511627776) (by omega) (by omega)
  rw [e, wsm (by omega) (by omega)]
  omega
/-- Bytes. -/
def BytesL (l : List Int) : Prop := l.length ≤ 1048576 ∧ ∀ x ∈ l, 0 ≤ x ∧ x ≤ 255
theorem rd_byte {l : List Int} (h : BytesL l) {i : Int} (h0 : 0 ≤ i) (h1 : i < (l.length : Int)) : 0 ≤ rd l i ∧ rd l i ≤ 255 := by
  obtain ⟨n, rfl⟩ : ∃ n : Nat, i = n := ⟨i.toNat, by omega⟩
  rw [rd_nat]
  have hn : n < l.length := by omega
  have := h.2 l[n] (List.getElem_mem hn)
  simpa [hn] using this
theorem next_ok {l : List Int} (hl : BytesL l) (a sd : Int) (h0 : 0 ≤ a) (h1 : a ≤ 1000000000) : ∃ v sd', spec_l00Src_next.f l a sd = some (v, a + 1, sd') ∧ 0 ≤ v ∧ v ≤ 255 := by
  unfold spec_l00Src_next.f
  rw [wsm (x := a + 1) (by omega) (by omega)]
  by_cases hlt : a < (l.length : Int)
  · have hb := rd_byte hl h0 hlt
    rw [if_pos hlt, if_pos h0, if_pos (by omega)]
    refine ⟨_, _, rfl, ?_, ?_⟩ <;> rw [wsm (by omega) (by omega)] <;> omega
  · rw [if_neg hlt, if_neg (by omega)]
    exact ⟨_, _, rfl, (and255 _).1, (and255 _).2⟩
theorem pick_ok {l : List Int} (hl : BytesL l) (a sd n : Int) (h0 : 0 ≤ a) (h1 : a ≤ 1000000000) (hn : 2 ≤ n) (hn2 : n ≤ 200) : ∃ v sd', spec_l00Src_pick.f l a sd n = some (v, a + 1, sd') ∧ 0 ≤ v ∧ v < n := by
  obtain ⟨v, sd', e, hv0, hv1⟩ := next_ok hl a sd h0 h1
  unfold spec_l00Src_pick.f
  rw [if_neg (by omega), e]
  simp only [Option.bind_some]
  rw [if_neg (by omega), if_neg (by omega), Int.tmod_eq_emod_of_nonneg hv0]
  exact ⟨_, _, rfl, Int.emod_nonneg _ (by omega), Int.emod_lt_of_pos _ (by omega)⟩
theorem one_ok {l : List Int} (hl : BytesL l) (a sd n : Int) (h0 : 0 ≤ a) (h1 : a ≤ 1000000000) (hn : 2 ≤ n) (hn2 : n ≤ 200) : ∃ b sd', spec_l00Src_one.f l a sd n = some (b, a + 1, sd') := by
  obtain ⟨v, sd', e, _⟩ := pick_ok hl a sd n h0 h1 hn hn2
  unfold spec_l00Src_one.f
  rw [e]
  exact ⟨_, _, rfl⟩
theorem word_ok {l : List Int} (hl : BytesL l) (a sd : Int) (h0 : 0 ≤ a) (h1 : a ≤ 999999999) : ∃ v sd', spec_l05DrawWord.f l a sd = some (v, a + 2, sd') ∧ v ≠ 0 ∧ -6 ≤ v ∧ v ≤ 6 := by
  obtain ⟨v, sd1, e1, hv0, hv1⟩ := pick_ok hl a sd 6 h0 (by omega) (by omega) (by omega)
  obtain ⟨b, sd2, e2⟩ := one_ok hl (a + 1) sd1 2 (by omega) (by omega) (by omega) (by omega)
  unfold spec_l05DrawWord.f
  rw [e1]
  simp only [Option.bind_some]
  rw [e2]
  simp only [Option.bind_some]
  have ea : a + 1 + 1 = a + 2 := by omega
  rw [ea, wsm (x := 1 + v) (by omega) (by omega)]
  cases b with
  | true => rw [if_pos rfl, wsm (by omega) (by omega)]; exact ⟨_, _, rfl, by omega, by omega, by omega⟩
  | false => rw [if_neg (by decide)]; exact ⟨_, _, rfl, by omega, by omega, by omega⟩
theorem wordsFrom_snoc {l : List Int} : ∀ {p x : Int}, wordsFrom p l = true → (∀ y ∈ l, atm y < atm x) → p < atm x → wordB x = true → wordsFrom p (l ++ [x]) = true := by
  induction l with
  | nil => intro p x _ _ hp hx; simp [wordsFrom, hx, hp]
  | cons z r ih =>
    intro p x h hy hp hx
    unfold wordsFrom at h
    rw [Bool.and_eq_true, Bool.and_eq_true] at h
    show wordsFrom p (z :: (r ++ [x])) = true
    unfold wordsFrom
    rw [h.1, h.2.1, ih h.2.2 (fun y hy' => hy y (List.mem_cons_of_mem _ hy')) (hy z (List.mem_cons_self ..)) hx]
    rfl
/-- What has been drawn of facts, up to an atom. -/
structure FactsTo (xs : List Int) (a : Int) : Prop where
  words : wordsB xs = true
  small : ∀ y ∈ xs, atm y < a
  six : ∀ y ∈ xs, -6 ≤ y ∧ y ≤ 6
theorem FactsTo.none_ : FactsTo [] 1 := ⟨rfl, by simp, by simp⟩
theorem FactsTo.skip {xs : List Int} {a : Int} (h : FactsTo xs a) : FactsTo xs (a + 1) := ⟨h.words, fun y hy => by have := h.small y hy; omega, h.six⟩
theorem FactsTo.add {xs : List Int} {a x : Int} (h : FactsTo xs a) (ha : 1 ≤ a) (ha6 : a ≤ 6) (hx : x = a ∨ x = -a) : FactsTo (xs ++ [x]) (a + 1) := by
  have e : atm x = a := by unfold atm; rcases hx with rfl | rfl <;> split <;> omega
  have hw : wordB x = true := by rw [wordB_iff]; rcases hx with rfl | rfl <;> omega
  refine ⟨wordsFrom_snoc h.words (fun y hy => by rw [e]; exact h.small y hy) (by rw [e]; omega) hw, ?_, ?_⟩
  · intro y hy
    rcases List.mem_append.1 hy with hy | hy
    · have := h.small y hy; omega
    · rw [List.mem_singleton] at hy; subst hy; omega
  · intro y hy
    rcases List.mem_append.1 hy with hy | hy
    · exact h.six y hy
    · rw [List.mem_singleton] at hy; subst hy; rcases hx with rfl | rfl <;> omega
theorem facts_from {l : List Int} (hl : BytesL l) (most : Int) (d : Nat) : ∀ (k : Nat) (xs : List Int) (at_ a sd : Int), 7 - at_ = d → 1 ≤ at_ → at_ ≤ 7 → 2 * d + 1 < k → FactsTo xs at_ → (xs.length : Int) < at_ → (xs.length : Int) ≤ most → 0 ≤ a → a ≤ 1000000 + at_ →
    ∃ r a' sd', spec_l05DrawFacts.l0 k most xs at_ l a sd = some (r, a', sd') ∧ wordsB r = true ∧ (∀ y ∈ r, -6 ≤ y ∧ y ≤ 6) ∧ (r.length : Int) ≤ most ∧ r.length ≤ 6 ∧ a ≤ a' ∧ a' ≤ a + d := by
  induction d with
  | zero =>
    intro k xs at_ a sd hd h1 h7 hk hf hlen hm h0 ha
    obtain ⟨k, rfl⟩ : ∃ m, k = m + 1 := ⟨k - 1, by omega⟩
    obtain ⟨k, rfl⟩ : ∃ m, k = m + 1 := ⟨k - 1, by omega⟩
    simp only [spec_l05DrawFacts.l0]
    rw [if_neg (by omega)]
    simp only [spec_l05DrawFacts.j1]
    rw [if_neg (by decide)]
    exact ⟨_, _, _, rfl, hf.words, hf.six, hm, by omega, by omega, by omega⟩
  | succ d ih =>
    intro k xs at_ a sd hd h1 h7 hk hf hlen hm h0 ha
    obtain ⟨k, rfl⟩ : ∃ m, k = m + 1 := ⟨k - 1, by omega⟩
    obtain ⟨k, rfl⟩ : ∃ m, k = m + 1 := ⟨k - 1, by omega⟩
    simp only [spec_l05DrawFacts.l0]
    rw [if_pos (by omega)]
    simp only [spec_l05DrawFacts.j1]
    by_cases hq : (xs.length : Int) < most
    · rw [decide_eq_true hq, if_pos rfl]
      obtain ⟨v, sd1, e, hv0, hv1⟩ := pick_ok hl a sd 5 h0 (by omega) (by omega) (by omega)
      rw [e]
      simp only [Option.bind_some]
      have hw : wrap64 (at_ + 1) = at_ + 1 := wsm (by omega) (by omega)
      rw [hw]
      by_cases e0 : v = 0
      · rw [if_pos e0, if_pos (by omega)]
        obtain ⟨r, a', sd', e1, e2, e3, e4, e5, e6, e7⟩ := ih k (xs ++ [at_]) (at_ + 1) (a + 1) sd1 (by omega) (by omega) (by omega) (by omega) (hf.add h1 (by omega) (.inl rfl)) (by rw [List.length_append, List.length_singleton]; omega) (by rw [List.length_append, List.length_singleton]; omega) (by omega) (by omega)
        exact ⟨r, a', sd', e1, e2, e3, e4, e5, by omega, by omega⟩
      · rw [if_neg e0]
        by_cases e1' : v = 1
        · rw [if_pos e1', if_pos (by omega), wsm (x := -at_) (by omega) (by omega)]
          obtain ⟨r, a', sd', e1, e2, e3, e4, e5, e6, e7⟩ := ih k (xs ++ [-at_]) (at_ + 1) (a + 1) sd1 (by omega) (by omega) (by omega) (by omega) (hf.add h1 (by omega) (.inr rfl)) (by rw [List.length_append, List.length_singleton]; omega) (by rw [List.length_append, List.length_singleton]; omega) (by omega) (by omega)
          exact ⟨r, a', sd', e1, e2, e3, e4, e5, by omega, by omega⟩
        · rw [if_neg e1']
          obtain ⟨r, a', sd', e1, e2, e3, e4, e5, e6, e7⟩ := ih k xs (at_ + 1) (a + 1) sd1 (by omega) (by omega) (by omega) (by omega) hf.skip (by omega) hm (by omega) (by omega)
          exact ⟨r, a', sd', e1, e2, e3, e4, e5, by omega, by omega⟩
    · rw [decide_eq_false hq, if_neg (by decide)]
      exact ⟨_, _, _, rfl, hf.words, hf.six, hm, by omega, by omega, by omega⟩
theorem facts_ok {l : List Int} (hl : BytesL l) (most : Int) (hm : 0 ≤ most) (a sd : Int) (h0 : 0 ≤ a) (ha : a ≤ 1000000) {k : Nat} (hk : 20 ≤ k) :
    ∃ r a' sd', spec_l05DrawFacts.f k l a sd most = some (r, a', sd') ∧ wordsB r = true ∧ (∀ y ∈ r, -6 ≤ y ∧ y ≤ 6) ∧ (r.length : Int) ≤ most ∧ r.length ≤ 6 ∧ a ≤ a' ∧ a' ≤ a + 6 := by
  obtain ⟨r, a', sd', e1, e2, e3, e4, e5, e6, e7⟩ := facts_from hl most 6 k [] 1 a sd (by omega) (by omega) (by omega) (by omega) FactsTo.none_ (by simp) (by simpa using hm) h0 (by omega)
  exact ⟨r, a', sd', e1, e2, e3, e4, e5, e6, by omega⟩
/-- A rule as it is drawn. -/
structure Drawn (r : S41) : Prop where
  ok : ruleB r = true
  from0 : 0 ≤ r.f2
  from3 : r.f2 ≤ 3
  le : r.f2 ≤ r.f3
  till : r.f3 ≤ 14
  len : r.f1.length ≤ 3
  rank : 0 ≤ r.f4 ∧ r.f4 ≤ 2
  head : -6 ≤ r.f0 ∧ r.f0 ≤ 6
  ifs : ∀ y ∈ r.f1, -6 ≤ y ∧ y ≤ 6
theorem day_small {d : Int} (h0 : 0 ≤ d) (h1 : d ≤ 100000) : dayB d = true := by simp [dayB, h0, h1]
theorem rule_ok {l : List Int} (hl : BytesL l) (a sd : Int) (h0 : 0 ≤ a) (ha : a ≤ 900000) {k : Nat} (hk : 20 ≤ k) :
    ∃ (r : S41) (a' sd' : Int), spec_l05DrawOk.f k l a sd = some (r.f0, r.f1, r.f2, r.f3, r.f4, a', sd') ∧ Drawn r ∧ a ≤ a' ∧ a' ≤ a + 11 := by
  obtain ⟨v1, s1, e1, hv1, hv1a, hv1b⟩ := word_ok hl a sd h0 (by omega)
  obtain ⟨r2, a2, s2, e2, hw2, hx2, hl2, hl6, ha2, ha2b⟩ := facts_ok hl 3 (by omega) (a + 2) s1 (by omega) (by omega) hk
  obtain ⟨v3, s3, e3, hv3, hv3b⟩ := pick_ok hl a2 s2 4 (by omega) (by omega) (by omega) (by omega)
  obtain ⟨v4, s4, e4, hv4, hv4b⟩ := pick_ok hl (a2 + 1) s3 12 (by omega) (by omega) (by omega) (by omega)
  obtain ⟨v5, s5, e5, hv5, hv5b⟩ := pick_ok hl (a2 + 1 + 1) s4 3 (by omega) (by omega) (by omega) (by omega)
  refine ⟨⟨v1, r2, v3, v3 + v4, v5⟩, a2 + 1 + 1 + 1, s5, ?_, ?_, by omega, by omega⟩
  · unfold spec_l05DrawOk.f
    rw [e1]; simp only [Option.bind_some]
    rw [e2]; simp only [Option.bind_some]
    rw [e3]; simp only [Option.bind_some]
    rw [e4]; simp only [Option.bind_some]
    rw [e5]; simp only [Option.bind_some]
    rw [wsm (x := v3 + v4) (by omega) (by omega)]
  · refine ⟨?_, hv3, by show v3 ≤ 3; omega, by show v3 ≤ v3 + v4; omega, by show v3 + v4 ≤ 14; omega, by show r2.length ≤ 3; omega, ⟨hv5, by show v5 ≤ 2; omega⟩, ⟨hv1a, hv1b⟩, hx2⟩
    unfold ruleB
    have h1 : wordB v1 = true := (wordB_iff v1).2 (by omega)
    show (wordB v1 && (decide (r2.length ≤ 6) && wordsB r2 && (dayB v3 && (dayB (v3 + v4) && (decide (v3 ≤ v3 + v4) && rankB v5))))) = true
    rw [h1, decide_eq_true hl6, hw2, day_small hv3 (by omega), day_small (by omega) (by omega), decide_eq_true (by omega)]
    simp only [Bool.true_and, rankB]
    rw [decide_eq_true hv5, decide_eq_true (by omega)]
    rfl
theorem list_from {l : List Int} (hl : BytesL l) (d : Nat) : ∀ (k : Nat) (xs : List S41) (a sd : Int), 30 + d < k → xs.length + d ≤ 8 → (∀ r ∈ xs, Drawn r) → 0 ≤ a → a ≤ 100000 + 11 * xs.length →
    ∃ r a' sd', spec_l05DrawList.l0 k xs (d : Int) l a sd = some (r, a', sd') ∧ (∀ x ∈ r, Drawn x) ∧ r.length ≤ 8 := by
  induction d with
  | zero =>
    intro k xs a sd hk hx hr h0 ha
    obtain ⟨k, rfl⟩ : ∃ m, k = m + 1 := ⟨k - 1, by omega⟩
    simp only [spec_l05DrawList.l0]
    rw [if_neg (by omega)]
    exact ⟨_, _, _, rfl, hr, by omega⟩
  | succ d ih =>
    intro k xs a sd hk hx hr h0 ha
    obtain ⟨k, rfl⟩ : ∃ m, k = m + 1 := ⟨k - 1, by omega⟩
    obtain ⟨r, a', sd', e, hd, ha1, ha2⟩ := rule_ok hl a sd h0 (by omega) (k := k) (by omega)
    simp only [spec_l05DrawList.l0]
    rw [if_pos (by omega), e]
    simp only [Option.bind_some]
    rw [if_pos (by omega), wsm (by omega) (by omega)]
    have ed : ((d + 1 : Nat) : Int) - 1 = (d : Int) := by omega
    rw [ed]
    refine ih k (xs ++ [r]) a' sd' (by omega) (by simp; omega) ?_ (by omega) (by simp; omega)
    intro x hx
    rcases List.mem_append.1 hx with hx | hx
    · exact hr x hx
    · rw [List.mem_singleton] at hx; subst hx; exact hd
theorem rules_drawn {l : List Int} (hl : BytesL l) {k : Nat} (hk : 60 ≤ k) : ∃ r, spec_B10Rules.f k l = some r ∧ (∀ x ∈ r, Drawn x) ∧ r.length ≤ 8 := by
  obtain ⟨v, sd, e, hv0, hv1⟩ := pick_ok hl 0 0 9 (by omega) (by omega) (by omega) (by omega)
  obtain ⟨n, rfl⟩ : ∃ n : Nat, v = n := ⟨v.toNat, by omega⟩
  obtain ⟨r, a', sd', e1, h1, h2⟩ := list_from hl n k [] (0 + 1) sd (by omega) (by simp; omega) (by simp) (by omega) (by simp)
  refine ⟨r, ?_, h1, h2⟩
  unfold spec_B10Rules.f spec_l00From.f spec_l05DrawList.f
  simp only [Option.bind_some]
  rw [e]
  simp only [Option.bind_some]
  rw [e1]
  rfl
theorem facts_drawn {l : List Int} (hl : BytesL l) {k : Nat} (hk : 20 ≤ k) : ∃ r, spec_B10Facts.f k l = some r ∧ wordsB r = true ∧ (∀ y ∈ r, -6 ≤ y ∧ y ≤ 6) := by
  obtain ⟨r, a', sd', e, h1, h2, _⟩ := facts_ok hl 6 (by omega) 0 0 (by omega) (by omega) hk
  refine ⟨r, ?_, h1, h2⟩
  unfold spec_B10Facts.f spec_l00From.f
  simp only [Option.bind_some]
  rw [e]
  rfl
theorem at_ok {l : List Int} (hl : BytesL l) (i n : Int) (h0 : 0 ≤ i) (hi : i ≤ 1000) (hn : n ≤ 100000) : ∃ v, laws_b10At.f l i n = some v ∧ 0 ≤ v ∧ (v < n ∨ v = 0) := by
  unfold laws_b10At.f
  by_cases h1 : n ≤ 1
  · rw [if_pos h1]; exact ⟨0, rfl, by omega, .inr rfl⟩
  · rw [if_neg h1]
    by_cases hlt : i < (l.length : Int)
    · have hb := rd_byte hl h0 hlt
      rw [if_pos hlt, if_pos h0, if_neg (by omega), wsm (by omega) (by omega), Int.tmod_eq_emod_of_nonneg hb.1]
      exact ⟨_, rfl, Int.emod_nonneg _ (by omega), .inl (Int.emod_lt_of_pos _ (by omega))⟩
    · rw [if_neg hlt, if_neg (by omega), wsm (x := i * 37) (by omega) (by omega), wsm (by omega) (by omega), Int.tmod_eq_emod_of_nonneg (by omega)]
      exact ⟨_, rfl, Int.emod_nonneg _ (by omega), .inl (Int.emod_lt_of_pos _ (by omega))⟩
theorem drawn_rules {l : List S41} (h : ∀ x ∈ l, Drawn x) (hl : l.length ≤ 8) : rulesB l = true := by
  unfold rulesB
  rw [decide_eq_true (by omega), Bool.true_and, List.all_eq_true]
  exact fun x hx => (h x hx).ok
end Go.Proofs.YtoippneeagaceaaGreat.PR

namespace Go.Proofs.YtoippneeagaceaaGreat.PR
open Go.RowKit Go.Proofs.YtoippneeagaceaaGreatW.PrintWords Go.Proofs.YtoippneeagaceaaGreatW.PrintLast Go.Proofs.YtoippneeagaceaaGreatW.PrintMore
set_option linter.unusedVariables false
set_option linter.unusedSimpArgs false
/-! ### ascending lists -/
def Asc (l : List Int) : Prop := l.Pairwise (· < ·)
theorem Asc.ext : ∀ {a b : List Int}, Asc a → Asc b → (∀ x, x ∈ a ↔ x ∈ b) → a = b
  | [], [], _, _, _ => rfl
  | [], y :: b, _, _, h => by have := (h y).2 (List.mem_cons_self ..); cases this
  | x :: a, [], _, _, h => by have := (h x).1 (List.mem_cons_self ..); cases this
  | x :: a, y :: b, ha, hb, h => by
    have ha' := List.pairwise_cons.1 ha
    have hb' := List.pairwise_cons.1 hb
    have e : x = y := by
      rcases List.mem_cons.1 ((h x).1 (List.mem_cons_self ..)) with e | h1
      · exact e
      · rcases List.mem_cons.1 ((h y).2 (List.mem_cons_self ..)) with e | h2
        · exact e.symm
        · have := hb'.1 x h1; have := ha'.1 y h2; omega
    subst e
    congr 1
    refine Asc.ext ha'.2 hb'.2 (fun z => ?_)
    constructor
    · intro hz
      rcases List.mem_cons.1 ((h z).1 (List.mem_cons_of_mem _ hz)) with e | h1
      · have := ha'.1 z hz; omega
      · exact h1
    · intro hz
      rcases List.mem_cons.1 ((h z).2 (List.mem_cons_of_mem _ hz)) with e | h1
      · have := hb'.1 z hz; omega
      · exact h1
theorem Asc.snoc {l : List Int} {x : Int} (h : Asc l) (hx : ∀ y ∈ l, y < x) : Asc (l ++ [x]) := by
  unfold Asc
  rw [List.pairwise_append]
  exact ⟨h, List.pairwise_singleton _ _, fun a ha b hb => by rw [List.mem_singleton] at hb; subst hb; exact hx a ha⟩
theorem compact_upTo {d : Array Int} (hd : ∀ i j, i < j → j < d.size → d[i]! ≤ d[j]!) : ∀ m, m ≤ d.size → Asc (Lib.compactUpTo d m) ∧ ∀ x, x ∈ Lib.compactUpTo d m ↔ ∃ j, j < m ∧ d[j]! = x := by
  intro m
  induction m with
  | zero => intro _; exact ⟨List.Pairwise.nil, fun x => ⟨fun h => by simp [Lib.compactUpTo] at h, fun ⟨j, hj, _⟩ => by omega⟩⟩
  | succ m ih =>
    intro hm
    obtain ⟨h1, h2⟩ := ih (by omega)
    rw [Lib.compactUpTo_succ]
    by_cases hk : Lib.keeps d m = true
    · rw [if_pos hk]
      refine ⟨h1.snoc (fun y hy => ?_), fun x => ?_⟩
      · obtain ⟨j, hj, rfl⟩ := (h2 y).1 hy
        have hne : d[m]! ≠ d[m - 1]! := by
          unfold Lib.keeps at hk
          rcases of_decide_eq_true hk with h | h
          · omega
          · exact h
        have a1 := hd (m - 1) m (by omega) (by omega)
        have a2 : d[j]! ≤ d[m - 1]! := by
          by_cases e : j = m - 1
          · rw [e]; exact Int.le_refl _
          · exact hd j (m - 1) (by omega) (by omega)
        omega
      · rw [List.mem_append, List.mem_singleton, h2]
        constructor
        · rintro (⟨j, hj, e⟩ | e)
          · exact ⟨j, by omega, e⟩
          · exact ⟨m, by omega, e.symm⟩
        · rintro ⟨j, hj, e⟩
          by_cases ej : j = m
          · subst ej; exact .inr e.symm
          · exact .inl ⟨j, by omega, e⟩
    · rw [if_neg hk, List.append_nil]
      refine ⟨h1, fun x => ?_⟩
      rw [h2]
      have hm0 : ¬ m = 0 ∧ d[m]! = d[m - 1]! := by
        unfold Lib.keeps at hk
        have := mt decide_eq_true hk
        exact ⟨fun e => this (.inl e), Decidable.not_not.1 (fun e => this (.inr e))⟩
      constructor
      · rintro ⟨j, hj, e⟩; exact ⟨j, by omega, e⟩
      · rintro ⟨j, hj, e⟩
        by_cases ej : j = m
        · subst ej; exact ⟨j - 1, by omega, by rw [← hm0.2]; exact e⟩
        · exact ⟨j, by omega, e⟩
theorem compact_sorted (xs : List Int) : Asc (Lib.compact (xs.mergeSort fun x y => decide (x ≤ y))) ∧ ∀ x, x ∈ Lib.compact (xs.mergeSort fun x y => decide (x ≤ y)) ↔ x ∈ xs := by
  have hp : (xs.mergeSort fun x y => decide (x ≤ y)).Pairwise (fun x y => decide (x ≤ y) = true) :=
    List.pairwise_mergeSort (le := fun x y : Int => decide (x ≤ y)) (fun a b c h1 h2 => by simp at h1 h2 ⊢; omega) (fun a b => by simp; omega) xs
  obtain ⟨ys, hys⟩ : ∃ ys, ys = xs.mergeSort fun x y => decide (x ≤ y) := ⟨_, rfl⟩
  have hmem : ∀ x, x ∈ ys ↔ x ∈ xs := fun x => by rw [hys]; exact List.mem_mergeSort
  rw [← hys] at hp ⊢
  have hget : ∀ i, i < ys.length → ys.toArray[i]! = ys.getD i 0 := fun i hi => by simp [hi]
  have hd : ∀ i j, i < j → j < ys.toArray.size → ys.toArray[i]! ≤ ys.toArray[j]! := by
    intro i j hij hj
    have hj' : j < ys.length := by simpa using hj
    rw [hget i (by omega), hget j hj']
    have := List.pairwise_iff_getElem.1 hp i j (by omega) hj' hij
    simpa [show i < ys.length by omega, hj'] using this
  obtain ⟨h1, h2⟩ := compact_upTo hd ys.length (by simp)
  refine ⟨h1, fun x => ?_⟩
  rw [← hmem]
  unfold Lib.compact
  rw [h2]
  constructor
  · rintro ⟨j, hj, e⟩
    rw [hget j hj] at e
    rw [← e]
    simp [hj]
  · intro hx
    obtain ⟨j, hj, e⟩ := List.getElem_of_mem hx
    exact ⟨j, hj, by rw [hget j hj, ← e]; simp [hj]⟩
/-! ### the days of changes -/
/-- A rule begins or has ended on a day. -/
def turnsOn (d : Int) (r : S41) : Prop := d = r.f2 ∨ d = r.f3 + 1
theorem rule_days {r : S41} (h : ruleB r = true) : 0 ≤ r.f2 ∧ r.f2 ≤ r.f3 ∧ r.f3 ≤ 100000 := by
  simp only [ruleB, dayB, Bool.and_eq_true, decide_eq_true_eq] at h
  omega
theorem rules_all {l : List S41} (h : rulesB l = true) : ∀ r ∈ l, ruleB r = true := by
  unfold rulesB at h
  rw [Bool.and_eq_true, List.all_eq_true] at h
  exact h.2
theorem changes_asc {l : List S41} (h : rulesB l = true) : Asc (changesL l) ∧ ∀ d, d ∈ changesL l ↔ (1 ≤ d ∧ d ≤ 100000) ∧ ∃ r ∈ l, turnsOn d r := by
  obtain ⟨h1, h2⟩ := compact_sorted (rawDays l)
  refine ⟨h1, fun d => ?_⟩
  unfold changesL
  rw [h2]
  unfold rawDays
  rw [List.mem_flatMap]
  constructor
  · rintro ⟨r, hr, hd⟩
    unfold rawOf at hd
    rw [List.mem_filter] at hd
    obtain ⟨hd1, hd2⟩ := hd
    have hv := rule_days (rules_all h r hr)
    simp only [inDays, Bool.and_eq_true, decide_eq_true_eq] at hd2
    refine ⟨hd2, r, hr, ?_⟩
    rw [wsm (by omega) (by omega)] at hd1
    simpa [turnsOn] using hd1
  · rintro ⟨hd, r, hr, ht⟩
    refine ⟨r, hr, ?_⟩
    have hv := rule_days (rules_all h r hr)
    unfold rawOf
    rw [List.mem_filter, wsm (by omega) (by omega)]
    exact ⟨by simpa [turnsOn] using ht, by simp [inDays, hd.1, hd.2]⟩
/-! ### the reference's days -/
def foldMin (last : Int) (cur : Int) : List Int → Int
  | [] => cur
  | y :: r => foldMin last (if y > last then (if cur < y then cur else y) else cur) r
theorem min_eq (a b : Int) : spec_l00Min.f a b = some (if a < b then a else b) := by unfold spec_l00Min.f; split <;> rfl
theorem foldMin_le (last : Int) : ∀ (ys : List Int) (cur : Int), foldMin last cur ys ≤ cur ∧ (∀ y ∈ ys, y > last → foldMin last cur ys ≤ y) ∧ (foldMin last cur ys = cur ∨ (foldMin last cur ys ∈ ys ∧ foldMin last cur ys > last))
  | [], cur => ⟨Int.le_refl _, by simp, .inl rfl⟩
  | z :: r, cur => by
    obtain ⟨h1, h2, h3⟩ := foldMin_le last r (if z > last then (if cur < z then cur else z) else cur)
    show foldMin last _ r ≤ cur ∧ (∀ y ∈ z :: r, y > last → foldMin last _ r ≤ y) ∧ _
    refine ⟨?_, ?_, ?_⟩
    · refine Int.le_trans h1 ?_
      split
      · split <;> omega
      · omega
    · intro y hy hg
      rcases List.mem_cons.1 hy with rfl | hy
      · refine Int.le_trans h1 ?_
        rw [if_pos hg]
        split <;> omega
      · exact h2 y hy hg
    · rcases h3 with h3 | ⟨h3, h4⟩
      · show foldMin last _ r = cur ∨ _
        by_cases hg : z > last
        · rw [if_pos hg] at h3
          by_cases hc : cur < z
          · rw [if_pos hc] at h3
            left
            rw [if_pos hg, if_pos hc]
            exact h3
          · rw [if_neg hc] at h3
            right
            show foldMin last _ r ∈ z :: r ∧ foldMin last _ r > last
            rw [if_pos hg, if_neg hc, h3]
            exact ⟨List.mem_cons_self .., hg⟩
        · left
          rw [if_neg hg] at h3 ⊢
          exact h3
      · right
        exact ⟨List.mem_cons_of_mem _ h3, h4⟩
theorem foldMin_pos {last cur y : Int} {r : List Int} (h : y > last) : foldMin last cur (y :: r) = foldMin last (if cur < y then cur else y) r := by rw [foldMin, if_pos h]
theorem foldMin_neg {last cur y : Int} {r : List Int} (h : ¬ y > last) : foldMin last cur (y :: r) = foldMin last cur r := by rw [foldMin, if_neg h]
theorem l2_ok (x3 xs : List Int) (last : Int) (hx : x3.length ≤ 1000000) : ∀ (d n : Nat) (k : Nat) (cur : Int), n + d = x3.length → d < k →
    spec_l05Changes.l2 k x3 xs last cur (x3.length : Int) (n : Int) = (if foldMin last cur (x3.drop n) > 100000 then some xs else if xs.length < 17592186044416 then spec_l05Changes.l1 (k - d - 1) x3 (xs ++ [foldMin last cur (x3.drop n)]) (foldMin last cur (x3.drop n)) else none) := by
  intro d
  induction d with
  | zero =>
    intro n k cur hn hk
    obtain ⟨k, rfl⟩ : ∃ m, k = m + 1 := ⟨k - 1, by omega⟩
    simp only [spec_l05Changes.l2]
    rw [if_neg (by omega), List.drop_of_length_le (by omega)]
    rfl
  | succ d ih =>
    intro n k cur hn hk
    obtain ⟨k, rfl⟩ : ∃ m, k = m + 1 := ⟨k - 1, by omega⟩
    simp only [spec_l05Changes.l2]
    rw [if_pos (by omega), if_pos (by omega), if_pos (by omega), rd_nat, wsm (by omega) (by omega), drop_cons 0 x3 n (by omega)]
    have e1 : ((n : Int) + 1) = ((n + 1 : Nat) : Int) := by omega
    have e2 : k + 1 - (d + 1) - 1 = k - d - 1 := by omega
    rw [e1, e2]
    by_cases hg : x3.getD n 0 > last
    · rw [if_pos hg, foldMin_pos hg, min_eq]
      simp only [Option.bind_some]
      exact ih (n + 1) k _ (by omega) (by omega)
    · rw [if_neg hg, foldMin_neg hg]
      exact ih (n + 1) k _ (by omega) (by omega)
theorem l1_ok (x3 : List Int) (hx : x3.length ≤ 1000) (c : Nat) : ∀ (k : Nat) (xs : List Int) (last : Int), (x3.filter fun y => decide (y > last)).length ≤ c → (c + 1) * (x3.length + 3) ≤ k → xs.length + c ≤ 100000 → Asc xs → (∀ d, d ∈ xs ↔ (0 < d ∧ d ≤ last) ∧ d ∈ x3) → 0 ≤ last → last ≤ 100000 →
    ∃ r, spec_l05Changes.l1 k x3 xs last = some r ∧ Asc r ∧ ∀ d, d ∈ r ↔ (0 < d ∧ d ≤ 100000) ∧ d ∈ x3 := by
  induction c with
  | zero =>
    intro k xs last hc hk hl ha hm h0 h1
    obtain ⟨k, rfl⟩ : ∃ m, k = m + 1 := ⟨k - 1, by omega⟩
    simp only [spec_l05Changes.l1]
    have := l2_ok x3 xs last (by omega) x3.length 0 k 100001 (by omega) (by omega)
    rw [show ((0 : Nat) : Int) = 0 from rfl, List.drop_zero] at this
    rw [this]
    have hnone : ∀ y ∈ x3, ¬ y > last := by
      intro y hy hg
      have : y ∈ x3.filter (fun y => decide (y > last)) := List.mem_filter.2 ⟨hy, by simpa using hg⟩
      have := List.length_pos_of_mem this
      omega
    obtain ⟨f1, f2, f3⟩ := foldMin_le last x3 100001
    have e : foldMin last 100001 x3 = 100001 := by
      rcases f3 with f3 | ⟨f3, f4⟩
      · exact f3
      · exact absurd f4 (hnone _ f3)
    rw [e, if_pos (by omega)]
    refine ⟨xs, rfl, ha, fun d => ?_⟩
    rw [hm]
    constructor
    · rintro ⟨⟨a, b⟩, h⟩; exact ⟨⟨a, by omega⟩, h⟩
    · rintro ⟨⟨a, b⟩, h⟩; exact ⟨⟨a, by have := hnone d h; omega⟩, h⟩
  | succ c ih =>
    intro k xs last hc hk hl ha hm h0 h1
    rw [Nat.succ_mul] at hk
    obtain ⟨k, rfl⟩ : ∃ m, k = m + 1 := ⟨k - 1, by omega⟩
    simp only [spec_l05Changes.l1]
    have := l2_ok x3 xs last (by omega) x3.length 0 k 100001 (by omega) (by omega)
    rw [show ((0 : Nat) : Int) = 0 from rfl, List.drop_zero] at this
    rw [this]
    obtain ⟨f1, f2, f3⟩ := foldMin_le last x3 100001
    by_cases hb : foldMin last 100001 x3 > 100000
    · rw [if_pos hb]
      refine ⟨xs, rfl, ha, fun d => ?_⟩
      rw [hm]
      constructor
      · rintro ⟨⟨a, b⟩, h⟩; exact ⟨⟨a, by omega⟩, h⟩
      · rintro ⟨⟨a, b⟩, h⟩
        refine ⟨⟨a, ?_⟩, h⟩
        by_cases hg : d > last
        · have := f2 d h hg; omega
        · omega
    · rw [if_neg hb, if_pos (by omega)]
      generalize hmn : foldMin last 100001 x3 = mn at f1 f2 f3 hb
      obtain ⟨hin, hgt⟩ : mn ∈ x3 ∧ mn > last := by
        rcases f3 with f3 | f3
        · omega
        · exact f3
      refine ih _ (xs ++ [mn]) mn ?_ (by omega) (by rw [List.length_append, List.length_singleton]; omega) (ha.snoc fun y hy => by have := ((hm y).1 hy).1; omega) (fun d => ?_) (by omega) (by omega)
      · have hlt : (x3.filter fun y => decide (y > mn)).length < (x3.filter fun y => decide (y > last)).length :=
          filter_lt (fun y _ hy => by have := of_decide_eq_true hy; exact decide_eq_true (by omega)) hin (decide_eq_false (by omega)) (decide_eq_true hgt)
        omega
      · rw [List.mem_append, List.mem_singleton, hm]
        constructor
        · rintro (⟨⟨a, b⟩, h⟩ | rfl)
          · exact ⟨⟨a, by omega⟩, h⟩
          · exact ⟨⟨by omega, by omega⟩, hin⟩
        · rintro ⟨⟨a, b⟩, h⟩
          by_cases hg : d > last
          · right; have := f2 d h hg; omega
          · left; exact ⟨⟨a, by omega⟩, h⟩
def allDays (l : List S41) : List Int := l.flatMap fun r => [r.f2, wrap64 (r.f3 + 1)]
theorem allDays_len (l : List S41) : (allDays l).length = 2 * l.length := by
  unfold allDays
  induction l with
  | nil => rfl
  | cons r t ih => rw [List.flatMap_cons, List.length_append, ih]; simp; omega
theorem l0_ok (l : List S41) (hl : l.length ≤ 24) (d : Nat) : ∀ (n k : Nat), n + d = l.length → d < k →
    spec_l05Changes.l0 k l (allDays (l.take n)) (l.length : Int) (n : Int) = spec_l05Changes.l1 (k - d - 1) (allDays l) [] 0 := by
  induction d with
  | zero =>
    intro n k hn hk
    obtain ⟨k, rfl⟩ : ∃ m, k = m + 1 := ⟨k - 1, by omega⟩
    simp only [spec_l05Changes.l0]
    rw [if_neg (by omega), List.take_of_length_le (by omega)]
    rfl
  | succ d ih =>
    intro n k hn hk
    obtain ⟨k, rfl⟩ : ∃ m, k = m + 1 := ⟨k - 1, by omega⟩
    simp only [spec_l05Changes.l0]
    have hlen := allDays_len (l.take n)
    have htl : (l.take n).length ≤ 24 := by rw [List.length_take]; omega
    rw [if_pos (by omega), if_pos (by omega), if_pos (by omega)]
    simp only [Option.bind_some]
    rw [if_pos (by simp; omega), wsm (x := (n : Int) + 1) (by omega) (by omega)]
    have e1 : ((n : Int) + 1) = ((n + 1 : Nat) : Int) := by omega
    have e2 : k + 1 - (d + 1) - 1 = k - d - 1 := by omega
    have e3 : allDays (l.take n) ++ [(rd_T41 l (n : Int)).f2, wrap64 ((rd_T41 l (n : Int)).f3 + 1)] = allDays (l.take (n + 1)) := by
      have hn' : n < l.length := by omega
      rw [List.take_succ_eq_append_getElem hn']
      unfold allDays
      rw [List.flatMap_append]
      congr 1
      simp [rd_T41, hn']
    rw [e1, e2, e3]
    exact ih (n + 1) k (by omega) (by omega)
theorem spec_changes_eq {l : List S41} (h : rulesB l = true) {k : Nat} (hk : 3000 ≤ k) : spec_l05Changes.f k l = some (changesL l) := by
  have hl := rules_len h
  unfold spec_l05Changes.f
  have h0 := l0_ok l hl l.length 0 k (by omega) (by omega)
  rw [show allDays (l.take 0) = [] from rfl, show ((0 : Nat) : Int) = 0 from rfl] at h0
  rw [h0]
  have hal := allDays_len l
  have hf : ((allDays l).filter fun y => decide (y > 0)).length ≤ 48 := Nat.le_trans (List.length_filter_le _ _) (by omega)
  have hk2 : (48 + 1) * ((allDays l).length + 3) ≤ k - l.length - 1 := by
    have : (48 + 1) * ((allDays l).length + 3) ≤ 49 * 51 := Nat.mul_le_mul_left _ (by omega)
    omega
  obtain ⟨r, e, ha, hm⟩ := l1_ok (allDays l) (by omega) 48 (k - l.length - 1) [] 0 hf hk2 (by simp) List.Pairwise.nil (fun d => ⟨by simp, fun ⟨h, _⟩ => by omega⟩) (by omega) (by omega)
  rw [e]
  congr 1
  obtain ⟨hb, hbm⟩ := changes_asc h
  refine ha.ext hb (fun d => ?_)
  rw [hm, hbm]
  constructor
  · rintro ⟨h1, h2⟩
    refine ⟨by omega, ?_⟩
    unfold allDays at h2
    obtain ⟨r, hr, hd⟩ := List.mem_flatMap.1 h2
    have hv := rule_days (rules_all h r hr)
    rw [wsm (by omega) (by omega)] at hd
    exact ⟨r, hr, by simpa [turnsOn] using hd⟩
  · rintro ⟨h1, r, hr, ht⟩
    refine ⟨by omega, ?_⟩
    unfold allDays
    have hv := rule_days (rules_all h r hr)
    exact List.mem_flatMap.2 ⟨r, hr, by rw [wsm (by omega) (by omega)]; simpa [turnsOn] using ht⟩
end Go.Proofs.YtoippneeagaceaaGreat.PR

namespace Go.Proofs.YtoippneeagaceaaGreat.PR
open Go.RowKit Go.Proofs.YtoippneeagaceaaGreatW.PrintWords Go.Proofs.YtoippneeagaceaaGreatW.PrintLast Go.Proofs.YtoippneeagaceaaGreatW.PrintMore
set_option linter.unusedVariables false
set_option linter.unusedSimpArgs false
/-! ### days counted -/
/-- How many of n days from a on. -/
def cnt (yes : Int → Bool) (a : Int) : Nat → Int
  | 0 => 0
  | n + 1 => cnt yes a n + if yes (a + n) then 1 else 0
theorem cnt_le (yes : Int → Bool) (a : Int) (n : Nat) : 0 ≤ cnt yes a n ∧ cnt yes a n ≤ n := by
  induction n with
  | zero => simp [cnt]
  | succ n ih => unfold cnt; split <;> omega
theorem cnt_add (yes : Int → Bool) (a : Int) (m n : Nat) : cnt yes a (m + n) = cnt yes a m + cnt yes (a + m) n := by
  induction n with
  | zero => simp [cnt]
  | succ n ih =>
    rw [← Nat.add_assoc, cnt, ih, cnt]
    have : a + ((m + n : Nat) : Int) = a + (m : Int) + (n : Int) := by omega
    rw [this]
    omega
theorem cnt_const {yes : Int → Bool} {a : Int} {b : Bool} (n : Nat) (h : ∀ i : Nat, i < n → yes (a + i) = b) : cnt yes a n = if b then (n : Int) else 0 := by
  induction n with
  | zero => simp [cnt]
  | succ n ih =>
    rw [cnt, ih (fun i hi => h i (by omega)), h n (by omega)]
    cases b <;> simp
/-- Between two neighbours of a list of days nothing changes. -/
def Steady (yes : Int → Bool) (d1 : Int) : List Int → Prop
  | [] => True
  | [d] => d ≤ d1 ∧ ∀ x, d ≤ x → x ≤ d1 → yes x = yes d
  | d :: e :: r => d < e ∧ (∀ x, d ≤ x → x < e → yes x = yes d) ∧ Steady yes d1 (e :: r)
theorem Steady.le {yes : Int → Bool} {d1 : Int} : ∀ {r : List Int} {d : Int}, Steady yes d1 (d :: r) → d ≤ d1
  | [], d, h => h.1
  | e :: r, d, h => by have := Steady.le h.2.2; have := h.1; omega
theorem countW_cnt {yes : Int → Bool} {d1 : Int} (h1 : d1 ≤ 100000) : ∀ (r : List Int) (d acc : Int), Steady yes d1 (d :: r) → 0 ≤ d → 0 ≤ acc → acc ≤ 1000000 + d → countW yes d1 acc (d :: r) = acc + cnt yes d (d1 + 1 - d).toNat
  | [], d, acc, h, h0, ha, hb => by
    obtain ⟨hle, hs⟩ := h
    have hc : cnt yes d (d1 + 1 - d).toNat = if yes d then ((d1 + 1 - d).toNat : Int) else 0 := cnt_const _ (fun i hi => hs _ (by omega) (by omega))
    rw [hc]
    simp only [countW, List.headD_nil]
    rw [wsm (x := d1 + 1) (by omega) (by omega), wsm (x := d1 + 1 - d) (by omega) (by omega), wsm (by omega) (by omega)]
    cases yes d <;> simp
    omega
  | e :: r, d, acc, h, h0, ha, hb => by
    obtain ⟨hle, hs, hr⟩ := h
    have hed := hr.le
    have hc : cnt yes d (e - d).toNat = if yes d then ((e - d).toNat : Int) else 0 := cnt_const _ (fun i hi => hs _ (by omega) (by omega))
    have hsum : cnt yes d (d1 + 1 - d).toNat = cnt yes d (e - d).toNat + cnt yes e (d1 + 1 - e).toNat := by
      have e1 : (d1 + 1 - d).toNat = (e - d).toNat + (d1 + 1 - e).toNat := by omega
      have e2 : d + ((e - d).toNat : Int) = e := by omega
      rw [e1, cnt_add, e2]
    rw [hsum, hc]
    rw [countW]
    simp only [List.headD_cons]
    rw [wsm (x := e - d) (by omega) (by omega), wsm (x := acc + (e - d)) (by omega) (by omega)]
    cases hy : yes d
    · rw [if_neg (by decide), countW_cnt h1 r e acc hr (by omega) ha (by omega)]
      simp
    · rw [if_pos rfl, countW_cnt h1 r e (acc + (e - d)) hr (by omega) (by omega) (by omega)]
      simp
      omega
/-- Where no day of a change lies between, the same rules are active. -/
theorem same_active {l : List S41} (h : rulesB l = true) {a b : Int} (h0 : 0 ≤ a) (hab : a ≤ b) (hb : b ≤ 100000) (hn : ∀ x, a < x → x ≤ b → x ∉ changesL l) : l.filter (onB b) = l.filter (onB a) := by
  obtain ⟨_, hm⟩ := changes_asc h
  refine List.filter_congr fun r hr => ?_
  have hv := rule_days (rules_all h r hr)
  have hno : ∀ x, a < x → x ≤ b → ¬ turnsOn x r := fun x h1 h2 ht => hn x h1 h2 ((hm x).2 ⟨⟨by omega, by omega⟩, r, hr, ht⟩)
  have n1 : ¬ (a < r.f2 ∧ r.f2 ≤ b) := fun ⟨q1, q2⟩ => hno _ q1 q2 (.inl rfl)
  have n2 : ¬ (a < r.f3 + 1 ∧ r.f3 + 1 ≤ b) := fun ⟨q1, q2⟩ => hno _ q1 q2 (.inr rfl)
  unfold onB
  have e1 : decide (r.f2 ≤ b) = decide (r.f2 ≤ a) := decide_eq_decide.2 ⟨fun _ => by omega, fun _ => by omega⟩
  have e2 : (r.f2 ≤ a) → decide (b ≤ r.f3) = decide (a ≤ r.f3) := fun _ => decide_eq_decide.2 ⟨fun _ => by omega, fun _ => by omega⟩
  rw [e1]
  by_cases q : r.f2 ≤ a
  · rw [e2 q]
  · rw [decide_eq_false q]; rfl
theorem same_yes {l : List S41} (h : rulesB l = true) (facts : List Int) (x : Int) {a b : Int} (h0 : 0 ≤ a) (hab : a ≤ b) (hb : b ≤ 100000) (hn : ∀ x, a < x → x ≤ b → x ∉ changesL l) : yesOn l facts x b = yesOn l facts x a := by
  unfold yesOn
  rw [same_active h h0 hab hb hn]
theorem steady_from {yes : Int → Bool} {d1 : Int} {C : Int → Prop} (hc : ∀ a b, 0 ≤ a → a ≤ b → b ≤ d1 → (∀ x, a < x → x ≤ b → ¬ C x) → yes b = yes a) :
    ∀ (cs : List Int) (d : Int), 0 ≤ d → d ≤ d1 → Asc cs → (∀ c ∈ cs, d < c ∧ c ≤ d1) → (∀ x, d < x → x ≤ d1 → C x → x ∈ cs) → Steady yes d1 (d :: cs)
  | [], d, h0, h1, _, _, hC => ⟨h1, fun x hx hx1 => hc d x h0 hx hx1 (fun y hy hy1 hCy => by have := hC y hy (by omega) hCy; cases this)⟩
  | c :: cs, d, h0, h1, ha, hb, hC => by
    obtain ⟨ha1, ha2⟩ := List.pairwise_cons.1 ha
    have hc1 := hb c (List.mem_cons_self ..)
    refine ⟨hc1.1, fun x hx hx1 => hc d x h0 hx (by omega) (fun y hy hy1 hCy => ?_), ?_⟩
    · rcases List.mem_cons.1 (hC y hy (by omega) hCy) with e | h
      · omega
      · have := ha1 y h; omega
    · refine steady_from hc cs c (by omega) hc1.2 ha2 (fun y hy => ⟨ha1 y hy, (hb y (List.mem_cons_of_mem _ hy)).2⟩) (fun x hx hx1 hCx => ?_)
      rcases List.mem_cons.1 (hC x (by omega) hx1 hCx) with e | h
      · omega
      · exact h
theorem Asc.filter {l : List Int} (h : Asc l) (p : Int → Bool) : Asc (l.filter p) := List.Pairwise.filter p h
theorem days_eq {l : List S41} (h : rulesB l = true) (facts : List Int) (hf : wordsB facts = true) {x d0 d1 : Int} (hx : wordB x = true) (h0 : 0 ≤ d0) (h01 : d0 ≤ d1) (h1 : d1 ≤ 100000) :
    impl_DaysProved.f l facts x d0 d1 = some (cnt (yesOn l facts x) d0 (d1 + 1 - d0).toNat, true) := by
  have hd0 : dayB d0 = true := by simp [dayB]; omega
  have hd1 : dayB d1 = true := by simp [dayB]; omega
  have hlt : decide (d1 < d0) = false := decide_eq_false (by omega)
  unfold impl_DaysProved.f
  rw [h, hf, hd0, hx, hd1, hlt]
  simp only [Bool.and_self, Bool.not_false, if_true]
  congr 2
  obtain ⟨ha, hm⟩ := changes_asc h
  unfold startsOf
  rw [countW_cnt h1 _ d0 0 ?_ h0 (by omega) (by omega)]
  · omega
  · refine steady_from (C := fun d => d ∈ changesL l) (fun a b ha0 hab hb hn => same_yes h facts x ha0 hab (by omega) hn) _ d0 h0 h01 (ha.filter _) ?_ ?_
    · intro c hc
      have := (List.mem_filter.1 hc).2
      simp only [Bool.and_eq_true, decide_eq_true_eq] at this
      exact this
    · intro y hy hy1 hC
      exact List.mem_filter.2 ⟨hC, by simp [hy, hy1]⟩
/-! ### equal lists, members -/
theorem ints_from (a b : List Int) (hl : a.length = b.length) (hs : a.length ≤ 1000000) (d : Nat) : ∀ (n k : Nat), n + d = a.length → d < k → laws_b10Ints.l0 k a b (a.length : Int) (n : Int) = some (decide (a.drop n = b.drop n)) := by
  induction d with
  | zero =>
    intro n k hn hk
    obtain ⟨k, rfl⟩ : ∃ m, k = m + 1 := ⟨k - 1, by omega⟩
    simp only [laws_b10Ints.l0]
    rw [if_neg (by omega), List.drop_of_length_le (by omega), List.drop_of_length_le (by omega)]
    rfl
  | succ d ih =>
    intro n k hn hk
    obtain ⟨k, rfl⟩ : ∃ m, k = m + 1 := ⟨k - 1, by omega⟩
    simp only [laws_b10Ints.l0]
    rw [if_pos (by omega), if_pos (by omega), if_pos (by omega), if_pos (by omega), rd_nat, rd_nat, drop_cons 0 a n (by omega), drop_cons 0 b n (by omega)]
    have e1 : wrap64 ((n : Int) + 1) = ((n + 1 : Nat) : Int) := by rw [wsm (by omega) (by omega)]; omega
    by_cases h : a.getD n 0 = b.getD n 0
    · rw [if_pos h, e1, ih (n + 1) k (by omega) (by omega), h]
      congr 1
      rw [decide_eq_decide]
      constructor
      · intro e; rw [e]
      · intro e; injection e
    · rw [if_neg h]
      congr 1
      exact (decide_eq_false (fun e => h (by injection e))).symm
theorem ints_eq (a b : List Int) (hs : a.length ≤ 1000000) {k : Nat} (hk : a.length < k) : laws_b10Ints.f k a b = some (decide (a = b)) := by
  unfold laws_b10Ints.f
  by_cases h : a.length = b.length
  · rw [if_pos (by omega)]
    have := ints_from a b h hs a.length 0 k (by omega) (by omega)
    simpa using this
  · rw [if_neg (by omega)]
    congr 1
    exact (decide_eq_false (fun e => h (by rw [e]))).symm
theorem has_from (a : List Int) (x : Int) (hs : a.length ≤ 1000000) (d : Nat) : ∀ (n k : Nat), n + d = a.length → d < k → laws_b10Has.l0 k a x (a.length : Int) (n : Int) = some (decide (x ∈ a.drop n)) := by
  induction d with
  | zero =>
    intro n k hn hk
    obtain ⟨k, rfl⟩ : ∃ m, k = m + 1 := ⟨k - 1, by omega⟩
    simp only [laws_b10Has.l0]
    rw [if_neg (by omega), List.drop_of_length_le (by omega)]
    simp
  | succ d ih =>
    intro n k hn hk
    obtain ⟨k, rfl⟩ : ∃ m, k = m + 1 := ⟨k - 1, by omega⟩
    simp only [laws_b10Has.l0]
    rw [if_pos (by omega), if_pos (by omega), if_pos (by omega), rd_nat, drop_cons 0 a n (by omega)]
    have e1 : wrap64 ((n : Int) + 1) = ((n + 1 : Nat) : Int) := by rw [wsm (by omega) (by omega)]; omega
    by_cases h : a.getD n 0 = x
    · rw [if_pos h]
      congr 1
      exact (decide_eq_true (by rw [h]; exact List.mem_cons_self ..)).symm
    · rw [if_neg h, e1, ih (n + 1) k (by omega) (by omega)]
      congr 1
      rw [decide_eq_decide, List.mem_cons]
      constructor
      · exact fun e => .inr e
      · rintro (e | e)
        · exact absurd e.symm h
        · exact e
theorem has_eq (a : List Int) (x : Int) (hs : a.length ≤ 1000000) {k : Nat} (hk : a.length < k) : laws_b10Has.f k a x = some (decide (x ∈ a)) := by
  unfold laws_b10Has.f
  have := has_from a x hs a.length 0 k (by omega) (by omega)
  simpa using this
/-! ### active rules -/
theorem actFrom_len (day : Int) : ∀ (l : List S41) (n : Nat), (actFrom day n l).length = (l.filter (onB day)).length
  | [], n => rfl
  | r :: t, n => by
    cases h : onB day r
    · rw [actFrom_off h, filter_off h, actFrom_len day t]
    · rw [actFrom_on h, filter_on h, List.length_cons, List.length_cons, actFrom_len day t]
theorem actFrom_ge (day : Int) : ∀ (l : List S41) (n : Nat), ∀ y ∈ actFrom day n l, (n : Int) ≤ y
  | [], n => by simp [actFrom]
  | r :: t, n => by
    intro y hy
    cases h : onB day r
    · rw [actFrom_off h] at hy; have := actFrom_ge day t (n + 1) y hy; omega
    · rw [actFrom_on h] at hy
      rcases List.mem_cons.1 hy with e | hy
      · omega
      · have := actFrom_ge day t (n + 1) y hy; omega
theorem actFrom_inj {a b : Int} : ∀ (l : List S41) (n : Nat), actFrom a n l = actFrom b n l → ∀ r ∈ l, onB a r = onB b r
  | [], n, _, r, hr => by cases hr
  | s :: t, n, h, r, hr => by
    have key : onB a s = onB b s ∧ actFrom a (n + 1) t = actFrom b (n + 1) t := by
      cases ha : onB a s <;> cases hb : onB b s
      · rw [actFrom_off ha, actFrom_off hb] at h; exact ⟨rfl, h⟩
      · rw [actFrom_off ha, actFrom_on hb] at h
        have := actFrom_ge a t (n + 1) (n : Int) (by rw [h]; exact List.mem_cons_self ..)
        omega
      · rw [actFrom_on ha, actFrom_off hb] at h
        have := actFrom_ge b t (n + 1) (n : Int) (by rw [← h]; exact List.mem_cons_self ..)
        omega
      · rw [actFrom_on ha, actFrom_on hb] at h; injection h with _ h; exact ⟨rfl, h⟩
    rcases List.mem_cons.1 hr with rfl | hr
    · exact key.1
    · exact actFrom_inj t (n + 1) key.2 r hr
theorem actFrom_congr {a b : Int} : ∀ (l m : List S41) (n : Nat), l.map (onB a) = m.map (onB b) → actFrom a n l = actFrom b n m
  | [], [], n, _ => rfl
  | [], s :: t, n, h => by simp at h
  | r :: t, [], n, h => by simp at h
  | r :: t, s :: u, n, h => by
    rw [List.map_cons, List.map_cons] at h
    injection h with h1 h2
    have ih := actFrom_congr t u (n + 1) h2
    cases hb : onB b s
    · rw [hb] at h1; rw [actFrom_off h1, actFrom_off hb, ih]
    · rw [hb] at h1; rw [actFrom_on h1, actFrom_on hb, ih]
theorem actFrom_at (day : Int) : ∀ (l : List S41) (n : Nat) (i : Nat), i < (actFrom day n l).length → ∃ j : Nat, (actFrom day n l).getD i 0 = ((n + j : Nat) : Int) ∧ j < l.length ∧ (l.filter (onB day)).getD i z41 = l.getD j z41
  | [], n, i, h => by simp [actFrom] at h
  | r :: t, n, i, h => by
    cases hq : onB day r
    · rw [actFrom_off hq] at h ⊢
      rw [filter_off hq]
      obtain ⟨j, h1, h2, h3⟩ := actFrom_at day t (n + 1) i h
      exact ⟨j + 1, by rw [h1]; congr 1; omega, by simp; omega, by rw [h3]; simp⟩
    · rw [actFrom_on hq] at h ⊢
      rw [filter_on hq]
      cases i with
      | zero => exact ⟨0, by simp, by simp, by simp⟩
      | succ i =>
        obtain ⟨j, h1, h2, h3⟩ := actFrom_at day t (n + 1) i (by simpa using h)
        exact ⟨j + 1, by rw [List.getD_cons_succ, h1]; congr 1; omega, by simp; omega, by rw [List.getD_cons_succ, h3]; simp⟩
theorem actIdx_len (day : Int) (l : List S41) : (actIdx day l).length = (l.filter (onB day)).length := actFrom_len day l 0
theorem actIdx_le (day : Int) (l : List S41) : (actIdx day l).length ≤ l.length := by rw [actIdx_len]; exact List.length_filter_le _ _
/-- Other rules are active than on the day before, just on the days of changes. -/
theorem changes_iff {l : List S41} (h : rulesB l = true) {d : Int} (h1 : 1 ≤ d) (h2 : d ≤ 100000) : actIdx d l = actIdx (d - 1) l ↔ d ∉ changesL l := by
  obtain ⟨_, hm⟩ := changes_asc h
  have key : ∀ r ∈ l, (onB d r = onB (d - 1) r ↔ ¬ turnsOn d r) := by
    intro r hr
    have hv := rule_days (rules_all h r hr)
    unfold onB turnsOn
    rw [Bool.eq_iff_iff]
    simp only [Bool.and_eq_true, decide_eq_true_eq]
    omega
  constructor
  · intro he hc
    obtain ⟨_, r, hr, ht⟩ := (hm d).1 hc
    exact (key r hr).1 (actFrom_inj l 0 he r hr) ht
  · intro hc
    refine actFrom_congr l l 0 (List.map_congr_left fun r hr => (key r hr).2 (fun ht => hc ((hm d).2 ⟨⟨h1, h2⟩, r, hr, ht⟩)))
theorem actFull {l : List S41} (h : rulesB l = true) {d : Int} (hd : dayB d = true) : spec_ActiveRules.f l d = some (actIdx d l, true) := by
  unfold spec_ActiveRules.f
  rw [h, hd]
  rfl
theorem impl_act_from (l : List S41) (hl : l.length ≤ 24) (day : Int) (d : Nat) : ∀ (n k : Nat) (xs : List Int), n + d = l.length → d < k → xs.length ≤ n → impl_ActiveRules.l0 k day xs l (l.length : Int) (n : Int) = some (xs ++ actFrom day n (l.drop n), true) := by
  induction d with
  | zero =>
    intro n k xs hn hk hx
    obtain ⟨k, rfl⟩ : ∃ m, k = m + 1 := ⟨k - 1, by omega⟩
    simp only [impl_ActiveRules.l0]
    rw [if_neg (by omega), List.drop_of_length_le (by omega)]
    simp [actFrom]
  | succ d ih =>
    intro n k xs hn hk hx
    obtain ⟨k, rfl⟩ : ∃ m, k = m + 1 := ⟨k - 1, by omega⟩
    simp only [impl_ActiveRules.l0]
    have hn' : n < l.length := by omega
    have er : rd_T41 l (n : Int) = l.getD n z41 := by simp [rd_T41]
    rw [if_pos (by omega), if_pos (by omega), if_pos (by omega), er, isActive_eq, drop_cons z41 l n hn']
    simp only [Option.bind_some]
    have e1 : wrap64 ((n : Int) + 1) = ((n + 1 : Nat) : Int) := by rw [wsm (by omega) (by omega)]; omega
    rw [e1]
    cases hq : onB day (l.getD n z41)
    · rw [if_neg (by decide), actFrom_off hq]
      exact ih (n + 1) k xs (by omega) (by omega) (by omega)
    · rw [if_pos rfl, if_pos (by omega), actFrom_on hq, ih (n + 1) k (xs ++ [(n : Int)]) (by omega) (by omega) (by rw [List.length_append, List.length_singleton]; omega)]
      rw [List.append_assoc]
      rfl
theorem impl_act_eq {l : List S41} (h : rulesB l = true) {d : Int} (hd : dayB d = true) {k : Nat} (hk : 100 ≤ k) : impl_ActiveRules.f k l d = some (actIdx d l, true) := by
  have hl := rules_len h
  unfold impl_ActiveRules.f impl_AreRules.f
  simp only [Option.bind_some]
  rw [h, if_pos rfl, isDate_eq, hd]
  simp only [Option.bind_some, Bool.not_true]
  obtain ⟨k, rfl⟩ : ∃ m, k = m + 1 := ⟨k - 1, by omega⟩
  simp only [impl_ActiveRules.j0]
  rw [if_neg (by decide)]
  have := impl_act_from l hl d l.length 0 k [] (by omega) (by omega) (by simp)
  simpa [actIdx] using this
theorem clone_eq (a : Int) (l : List Int) (b c d : Int) (hl : l.length ≤ 1000) : impl_cloneRule.f a l b c d = some (a, l, b, c, d) := by
  unfold impl_cloneRule.f
  simp only [Option.bind_some]
  rw [if_pos (by simp; omega)]
  rfl
theorem rule_ifs {r : S41} (h : ruleB r = true) : r.f1.length ≤ 6 := by
  unfold ruleB at h
  simp only [Bool.and_eq_true, decide_eq_true_eq] at h
  omega
theorem getD_mem {α : Type} {z : α} {l : List α} {n : Nat} (h : n < l.length) : l.getD n z ∈ l := by
  rw [List.getD_eq_getElem?_getD, List.getElem?_eq_getElem h]; exact List.getElem_mem h
/-- A rule that is shown at a day. -/
def atDay (d : Int) (r : S41) : S41 := ⟨r.f0, r.f1, d, d, r.f4⟩
theorem rulesAt_from {l : List S41} (h : rulesB l = true) (day : Int) (d : Nat) : ∀ (n k : Nat) (xs : List S41), n + d = (actIdx day l).length → d < k → xs = ((l.filter (onB day)).take n).map (atDay day) →
    impl_RulesAt.l0 k l day xs (actIdx day l) ((actIdx day l).length : Int) (n : Int) = some ((l.filter (onB day)).map (atDay day), true) := by
  have hl := rules_len h
  have hle := actIdx_le day l
  have hlen := actIdx_len day l
  induction d with
  | zero =>
    intro n k xs hn hk hx
    obtain ⟨k, rfl⟩ : ∃ m, k = m + 1 := ⟨k - 1, by omega⟩
    simp only [impl_RulesAt.l0]
    rw [if_neg (by omega), hx, List.take_of_length_le (by omega)]
  | succ d ih =>
    intro n k xs hn hk hx
    obtain ⟨k, rfl⟩ : ∃ m, k = m + 1 := ⟨k - 1, by omega⟩
    simp only [impl_RulesAt.l0]
    obtain ⟨j, hj1, hj2, hj3⟩ := actFrom_at day l 0 n (show n < (actFrom day 0 l).length by show n < (actIdx day l).length; omega)
    have er : rd (actIdx day l) (n : Int) = (j : Int) := by rw [rd_nat]; rw [Nat.zero_add] at hj1; exact hj1
    have hxl : xs.length = n := by rw [hx, List.length_map, List.length_take]; omega
    rw [if_pos (by omega), if_pos (by omega), if_pos (by omega), er, if_pos (by omega), if_pos (by omega)]
    have eg : rd_T41 l (j : Int) = l.getD j z41 := by simp [rd_T41]
    have hmem : l.getD j z41 ∈ l := getD_mem hj2
    rw [eg, clone_eq _ _ _ _ _ (by have := rule_ifs (rules_all h _ hmem); omega)]
    simp only [Option.bind_some]
    clear er hj1 hmem eg
    have e1 : wrap64 ((n : Int) + 1) = ((n + 1 : Nat) : Int) := by rw [wsm (by omega) (by omega)]; omega
    rw [if_pos (by omega), e1]
    have hn' : n < (l.filter (onB day)).length := by omega
    have hx2 : xs ++ [atDay day (l.getD j z41)] = ((l.filter (onB day)).take (n + 1)).map (atDay day) := by
      rw [hx, List.take_succ_eq_append_getElem hn', List.map_append]
      have : (l.filter (onB day))[n] = l.getD j z41 := by rw [← hj3]; simp [hn']
      rw [this]
      rfl
    have hstep := ih (n + 1) k _ (by omega) (by omega) hx2
    exact hstep
theorem rulesAt_eq {l : List S41} (h : rulesB l = true) {d : Int} (hd : dayB d = true) {k : Nat} (hk : 100 ≤ k) : impl_RulesAt.f k l d = some ((l.filter (onB d)).map (atDay d), true) := by
  have hl := rules_len h
  have hle := actIdx_le d l
  unfold impl_RulesAt.f
  rw [impl_act_eq h hd hk]
  simp only [Option.bind_some, if_true]
  exact rulesAt_from h d (actIdx d l).length 0 k [] (by omega) (by omega) (by simp)
/-! ### copies, ends, amendments -/
theorem own_from {l : List S41} (hl : l.length ≤ 24) (hi : ∀ r ∈ l, r.f1.length ≤ 6) (d : Nat) : ∀ (n k : Nat), n + d = l.length → d < k → spec_l05OwnRules.l0 k l (l.take n) (l.length : Int) (n : Int) = some l := by
  induction d with
  | zero =>
    intro n k hn hk
    obtain ⟨k, rfl⟩ : ∃ m, k = m + 1 := ⟨k - 1, by omega⟩
    simp only [spec_l05OwnRules.l0]
    rw [if_neg (by omega), List.take_of_length_le (by omega)]
  | succ d ih =>
    intro n k hn hk
    obtain ⟨k, rfl⟩ : ∃ m, k = m + 1 := ⟨k - 1, by omega⟩
    simp only [spec_l05OwnRules.l0]
    have hn' : n < l.length := by omega
    have er : rd_T41 l (n : Int) = l.getD n z41 := by simp [rd_T41]
    have hm := hi _ (getD_mem (z := z41) hn')
    rw [if_pos (by omega), if_pos (by omega), if_pos (by omega), er]
    simp only [Option.bind_some]
    rw [if_pos (by rw [List.length_nil]; omega), if_pos (by rw [List.length_take]; omega)]
    have e1 : wrap64 ((n : Int) + 1) = ((n + 1 : Nat) : Int) := by rw [wsm (by omega) (by omega)]; omega
    have e2 : l.take n ++ [(⟨(l.getD n z41).f0, [] ++ (l.getD n z41).f1, (l.getD n z41).f2, (l.getD n z41).f3, (l.getD n z41).f4⟩ : S41)] = l.take (n + 1) := by
      rw [List.take_succ_eq_append_getElem hn']
      congr 2
      simp [hn']
    rw [e1, e2]
    exact ih (n + 1) k (by omega) (by omega)
theorem own_eq {l : List S41} (h : rulesB l = true) {k : Nat} (hk : 100 ≤ k) : spec_l05OwnRules.f k l = some l := by
  have hl := rules_len h
  unfold spec_l05OwnRules.f
  exact own_from hl (fun r hr => rule_ifs (rules_all h r hr)) l.length 0 k (by omega) (by omega)
theorem clones_from {l : List S41} (hl : l.length ≤ 24) (hi : ∀ r ∈ l, r.f1.length ≤ 6) (d : Nat) : ∀ (n k : Nat), n + d = l.length → d < k → impl_cloneRules.l0 k (l.take n) l (l.length : Int) (n : Int) = some l := by
  induction d with
  | zero =>
    intro n k hn hk
    obtain ⟨k, rfl⟩ : ∃ m, k = m + 1 := ⟨k - 1, by omega⟩
    simp only [impl_cloneRules.l0]
    rw [if_neg (by omega), List.take_of_length_le (by omega)]
  | succ d ih =>
    intro n k hn hk
    obtain ⟨k, rfl⟩ : ∃ m, k = m + 1 := ⟨k - 1, by omega⟩
    simp only [impl_cloneRules.l0]
    have hn' : n < l.length := by omega
    have er : rd_T41 l (n : Int) = l.getD n z41 := by simp [rd_T41]
    have hm := hi _ (getD_mem (z := z41) hn')
    rw [if_pos (by omega), if_pos (by omega), if_pos (by omega), er, clone_eq _ _ _ _ _ (by omega)]
    simp only [Option.bind_some]
    rw [if_pos (by rw [List.length_take]; omega)]
    have e1 : wrap64 ((n : Int) + 1) = ((n + 1 : Nat) : Int) := by rw [wsm (by omega) (by omega)]; omega
    have e2 : l.take n ++ [(⟨(l.getD n z41).f0, (l.getD n z41).f1, (l.getD n z41).f2, (l.getD n z41).f3, (l.getD n z41).f4⟩ : S41)] = l.take (n + 1) := by
      rw [List.take_succ_eq_append_getElem hn']
      congr 2
      simp [hn']
    rw [e1, e2]
    exact ih (n + 1) k (by omega) (by omega)
theorem clones_eq {l : List S41} (h : rulesB l = true) {k : Nat} (hk : 100 ≤ k) : impl_cloneRules.f k l = some l := by
  have hl := rules_len h
  unfold impl_cloneRules.f
  exact clones_from hl (fun r hr => rule_ifs (rules_all h r hr)) l.length 0 k (by omega) (by omega)
/-- May rule n end on the day before a day? -/
def endsB (l : List S41) (n : Nat) (d : Int) : Bool := decide (d > (l.getD n z41).f2) && decide (d ≤ (l.getD n z41).f3)
/-- The rules of which one has ended. -/
def endedL (l : List S41) (n : Nat) (d : Int) : List S41 := l.set n ⟨(l.getD n z41).f0, (l.getD n z41).f1, (l.getD n z41).f2, d - 1, (l.getD n z41).f4⟩
theorem ends_eq {l : List S41} (h : rulesB l = true) {n : Nat} (hn : n < l.length) {d : Int} (hd : dayB d = true) : spec_l05Ends.f l (n : Int) d = some (endsB l n d) := by
  have hl := rules_len h
  unfold spec_l05Ends.f spec_l05Rules.f
  have er : rd_T41 l (n : Int) = l.getD n z41 := by simp [rd_T41]
  rw [h]
  simp only [Option.bind_some, if_true]
  rw [day_eq, hd]
  simp only [Option.bind_some, if_true]
  rw [wsm (by omega) (by omega), in_eq, decide_eq_true (by omega), decide_eq_true (by omega)]
  simp only [Option.bind_some, Bool.and_self, if_true]
  rw [if_pos (by omega), if_pos (by omega), er]
  unfold endsB
  by_cases q : d > (l.getD n z41).f2
  · rw [if_pos q, decide_eq_true q, Bool.true_and]
  · rw [if_neg q, decide_eq_false q, Bool.false_and]
theorem impl_ended_eq {l : List S41} (h : rulesB l = true) {n : Nat} (hn : n < l.length) {d : Int} (hd : dayB d = true) {k : Nat} (hk : 100 ≤ k) : impl_ended.f k l (n : Int) d = some (if endsB l n d then (endedL l n d, true) else ([], false)) := by
  have hl := rules_len h
  have hdd : 0 ≤ d ∧ d ≤ 100000 := by simpa [dayB] using hd
  unfold impl_ended.f impl_AreRules.f
  have er : rd_T41 l (n : Int) = l.getD n z41 := by simp [rd_T41]
  rw [h]
  simp only [Option.bind_some, if_true]
  rw [isDate_eq, hd]
  simp only [Option.bind_some, if_true]
  rw [wsm (x := (l.length : Int) - 1) (by omega) (by omega), within_eq, decide_eq_true (by omega), decide_eq_true (by omega)]
  simp only [Option.bind_some, Bool.and_self, if_true]
  rw [if_pos (by omega), if_pos (by omega), er]
  unfold endsB endedL
  by_cases q : d ≤ (l.getD n z41).f2
  · rw [if_pos q, decide_eq_false (by omega), Bool.false_and]
    rfl
  · rw [if_neg q, decide_eq_true (show d > (l.getD n z41).f2 by omega), Bool.true_and]
    by_cases q2 : d > (l.getD n z41).f3
    · rw [if_pos q2, decide_eq_false (by omega)]
      rfl
    · rw [if_neg q2, clones_eq h hk, decide_eq_true (by omega)]
      simp only [Option.bind_some]
      rw [if_pos (by omega), er, wsm (by omega) (by omega)]
      simp
end Go.Proofs.YtoippneeagaceaaGreat.PR

namespace Go.Proofs.YtoippneeagaceaaGreat.PR
open Go.RowKit Go.Proofs.YtoippneeagaceaaGreatW.PrintWords Go.Proofs.YtoippneeagaceaaGreatW.PrintLast Go.Proofs.YtoippneeagaceaaGreatW.PrintMore
set_option linter.unusedVariables false
set_option linter.unusedSimpArgs false
theorem mem_wordsOf {P : Int → Prop} {x : Int} (hx : wordB x = true) : x ∈ wordsOf P ↔ P x := by
  unfold wordsOf
  rw [List.mem_filter]
  constructor
  · rintro ⟨_, h⟩; exact @of_decide_eq_true _ (Classical.propDecidable _) h
  · intro h; exact ⟨word_in hx, @decide_eq_true _ (Classical.propDecidable _) h⟩
theorem wordsOf_len (P : Int → Prop) : (wordsOf P).length ≤ 32 := by
  unfold wordsOf
  refine Nat.le_trans (List.length_filter_le _ _) ?_
  rw [wordsTo_len]
  omega
/-! ### amendments -/
def newRule (d : Int) : S41 := ⟨2, [1], d, 30, 1⟩
theorem newRule_ok {d : Int} (h0 : 0 ≤ d) (h1 : d ≤ 30) : ruleB (newRule d) = true := by
  have h2 : wordsB [1] = true := by decide
  unfold ruleB newRule
  simp only
  rw [h2]
  simp [wordB, dayB, rankB]
  omega
theorem ruleB_end {r : S41} (h : ruleB r = true) {d : Int} (h1 : r.f2 < d) (h2 : d ≤ r.f3) : ruleB ⟨r.f0, r.f1, r.f2, d - 1, r.f4⟩ = true := by
  unfold ruleB at h ⊢
  simp only [dayB, Bool.and_eq_true, decide_eq_true_eq] at h ⊢
  refine ⟨h.1, h.2.1, ⟨by omega, by omega⟩, ⟨by omega, by omega⟩, by omega, h.2.2.2.2.2⟩
theorem endsB_iff {l : List S41} {n : Nat} {d : Int} : endsB l n d = true ↔ (l.getD n z41).f2 < d ∧ d ≤ (l.getD n z41).f3 := by
  unfold endsB
  simp only [Bool.and_eq_true, decide_eq_true_eq]
theorem ended_ok {l : List S41} (h : rulesB l = true) {n : Nat} (hn : n < l.length) {d : Int} (he : endsB l n d = true) : ∀ r ∈ endedL l n d, ruleB r = true := by
  intro r hr
  rw [endsB_iff] at he
  rcases List.mem_or_eq_of_mem_set hr with h1 | rfl
  · exact rules_all h r h1
  · exact ruleB_end (rules_all h _ (getD_mem hn)) he.1 he.2
theorem ended_len (l : List S41) (n : Nat) (d : Int) : (endedL l n d).length = l.length := by unfold endedL; exact List.length_set
theorem amended_ok {l : List S41} (h : rulesB l = true) (h8 : l.length ≤ 8) {n : Nat} (hn : n < l.length) {d : Int} (he : endsB l n d = true) (hd : d ≤ 30) : rulesB (endedL l n d ++ [newRule d]) = true := by
  unfold rulesB
  rw [List.length_append, ended_len, List.length_singleton, decide_eq_true (by omega), Bool.true_and, List.all_eq_true]
  intro r hr
  rcases List.mem_append.1 hr with hr | hr
  · exact ended_ok h hn he r hr
  · rw [List.mem_singleton] at hr
    subst hr
    have hv := rule_days (rules_all h _ (getD_mem (z := z41) hn))
    rw [endsB_iff] at he
    exact newRule_ok (by omega) hd
theorem actFrom_append (d : Int) : ∀ (a b : List S41) (n : Nat), actFrom d n (a ++ b) = actFrom d n a ++ actFrom d (n + a.length) b
  | [], b, n => rfl
  | r :: t, b, n => by
    have ih := actFrom_append d t b (n + 1)
    have e : n + (r :: t).length = n + 1 + t.length := by simp; omega
    rw [e, List.cons_append]
    cases h : onB d r
    · rw [actFrom_off h, actFrom_off h, ih]
    · rw [actFrom_on h, actFrom_on h, ih]; rfl
theorem set_same {α : Type} {z : α} : ∀ (l : List α) (n : Nat), l.set n (l.getD n z) = l
  | [], n => rfl
  | x :: t, 0 => by simp
  | x :: t, n + 1 => by simp only [List.set_cons_succ, List.getD_cons_succ]; rw [set_same t n]
theorem before_same {l : List S41} (h : rulesB l = true) {n : Nat} (hn : n < l.length) {d : Int} (he : endsB l n d = true) : actIdx (d - 1) (endedL l n d ++ [newRule d]) = actIdx (d - 1) l := by
  unfold actIdx
  rw [actFrom_append]
  have e1 : actFrom (d - 1) (0 + (endedL l n d).length) [newRule d] = [] := by
    have : onB (d - 1) (newRule d) = false := by
      unfold onB newRule
      rw [decide_eq_false (show ¬ d ≤ d - 1 by omega)]; rfl
    rw [actFrom_off this]
    rfl
  rw [e1, List.append_nil]
  refine actFrom_congr _ _ 0 ?_
  unfold endedL
  rw [List.map_set]
  rw [endsB_iff] at he
  have hv := rule_days (rules_all h _ (getD_mem (z := z41) hn))
  have e2 : onB (d - 1) ⟨(l.getD n z41).f0, (l.getD n z41).f1, (l.getD n z41).f2, d - 1, (l.getD n z41).f4⟩ = true := by
    unfold onB
    rw [decide_eq_true (show (l.getD n z41).f2 ≤ d - 1 by omega), decide_eq_true (show d - 1 ≤ d - 1 by omega)]; rfl
  have e3 : (l.map (onB (d - 1))).getD n false = true := by
    rw [List.getD_eq_getElem?_getD, List.getElem?_map, List.getElem?_eq_getElem hn]
    have : l[n] = l.getD n z41 := by rw [List.getD_eq_getElem?_getD, List.getElem?_eq_getElem hn]; rfl
    simp only [Option.map_some, Option.getD_some]
    rw [this]
    unfold onB
    rw [decide_eq_true (show (l.getD n z41).f2 ≤ d - 1 by omega), decide_eq_true (show d - 1 ≤ (l.getD n z41).f3 by omega)]; rfl
  rw [e2, ← e3]
  exact set_same _ n
theorem spec_amend_eq {l : List S41} (h : rulesB l = true) (h8 : l.length ≤ 8) {n : Nat} (hn : n < l.length) {d : Int} (hd0 : 0 ≤ d) (hd : d ≤ 30) {k : Nat} (hk : 100 ≤ k) : spec_AmendRule.f k l (n : Int) d 2 [1] 0 30 1 = some (if endsB l n d then (endedL l n d ++ [newRule d], true) else ([], false)) := by
  have hdb : dayB d = true := by simp [dayB]; omega
  unfold spec_AmendRule.f
  rw [ends_eq h hn hdb]
  cases he : endsB l n d with
  | false => rfl
  | true =>
    simp only [Option.bind_some, if_true]
    rw [own_eq h hk]
    simp only [Option.bind_some]
    rw [if_pos (by omega), if_pos (by omega)]
    have er : rd_T41 l (n : Int) = l.getD n z41 := by simp [rd_T41]
    rw [er, wsm (x := d - 1) (by omega) (by omega), Int.toNat_natCast]
    rw [if_pos (by simp), if_pos (by rw [List.length_set]; omega)]
    have hr := amended_ok h h8 hn he hd
    unfold endedL newRule at hr
    unfold spec_l05Rules.f
    have e0 : ([] : List Int) ++ [1] = [1] := rfl
    rw [e0, hr]
    rfl
theorem impl_amend_eq {l : List S41} (h : rulesB l = true) (h8 : l.length ≤ 8) {n : Nat} (hn : n < l.length) {d : Int} (hd0 : 0 ≤ d) (hd : d ≤ 30) {k : Nat} (hk : 100 ≤ k) : impl_AmendRule.f k l (n : Int) d 2 [1] 0 30 1 = some (if endsB l n d then (endedL l n d ++ [newRule d], true) else ([], false)) := by
  have hdb : dayB d = true := by simp [dayB]; omega
  unfold impl_AmendRule.f
  rw [impl_ended_eq h hn hdb hk]
  cases he : endsB l n d with
  | false => rfl
  | true =>
    simp only [Option.bind_some, if_true]
    have hv := ValidRule_eq (newRule d) (by simp [newRule]) k (by simp [newRule]; omega)
    rw [newRule_ok hd0 hd] at hv
    have hv' : impl_ValidRule.f k 2 [1] d 30 1 = some true := hv
    rw [hv']
    simp only [Option.bind_some, if_true]
    rw [if_neg (by rw [ended_len]; omega), clone_eq _ _ _ _ _ (by simp)]
    simp only [Option.bind_some]
    rw [if_pos (by rw [ended_len]; omega)]
    rfl
theorem repeal_eq {l : List S41} (h : rulesB l = true) (h8 : l.length ≤ 8) {n : Nat} (hn : n < l.length) {d : Int} (hd0 : 0 ≤ d) (hd : d ≤ 30) {k : Nat} (hk : 100 ≤ k) : impl_RepealRule.f k l (n : Int) d = some (if endsB l n d then (endedL l n d, true) else ([], false)) := by
  have hdb : dayB d = true := by simp [dayB]; omega
  unfold impl_RepealRule.f
  rw [impl_ended_eq h hn hdb hk]
  rfl
end Go.Proofs.YtoippneeagaceaaGreat.PR

namespace Go.Proofs.YtoippneeagaceaaGreat.PR
open Go.RowKit Go.Shelf Go.Proofs.YtoippneeagaceaaGreatW.PrintWords Go.Proofs.YtoippneeagaceaaGreatW.PrintLast Go.Proofs.YtoippneeagaceaaGreatW.PrintMore
set_option linter.unusedVariables false
set_option linter.unusedSimpArgs false
/-- What lies in memory while the days go by. -/
structure AmF (Al : Option Addr) (cl : Nat) (l : List S41) (Ac : Option Addr) (cc : Nat) (ch : List Int) (Af : Option Addr) (cf : Nat) (fa : List Int) (A1 : Option Addr) (c1 : Nat) (b1 : List Int) (W : World) : Prop where
  l : RdL W Al cl l
  c : RdI W Ac cc ch
  f : RdI W Af cf fa
  b : RdB W A1 c1 b1
theorem AmF.later {Al Ac Af A1 : Option Addr} {cl cc cf c1 : Nat} {l : List S41} {ch fa b1 : List Int} (W W' : World) (hb : Below W.heap.size W W') (h : AmF Al cl l Ac cc ch Af cf fa A1 c1 b1 W) : AmF Al cl l Ac cc ch Af cf fa A1 c1 b1 W' :=
  ⟨h.l.later hb, h.c.later hb, h.f.later hb, h.b.later hb⟩
set_option maxHeartbeats 16000000 in
set_option maxRecDepth 100000 in
theorem am_calls (b0 b1 : List Int) (A0 : Option Addr) (c0 : Nat) (A1 : Option Addr) (c1 : Nat) (w : World) (h0 : RdB w A0 c0 b0) (h1 : RdB w A1 c1 b1) (hB0 : BytesL b0) (hB1 : BytesL b1) :
    Calls Tryz.prog 3 #[.slice A0 b0.length c0, .slice A1 b1.length c1] w fun e w' => e = .returned (.bool true) ∧ Below w.heap.size w w' := by
  obtain ⟨k, hk⟩ : ∃ k, 10000 ≤ k := ⟨10000, Nat.le_refl _⟩
  obtain ⟨l, e2, hdr, h8⟩ := rules_drawn hB0 (k := k) (by omega)
  have h := drawn_rules hdr h8
  obtain ⟨fa, e6, hf, _⟩ := facts_drawn hB1 (k := k) (by omega)
  obtain ⟨v, e7, hv0, hv1⟩ := at_ok hB1 1 6 (by omega) (by omega) (by omega)
  have hx : wordB (1 + v) = true := (wordB_iff _).2 (by omega)
  have hv2 : v ≤ 5 := by omega
  clear hv1
  obtain ⟨ch, hch⟩ : ∃ ch, ch = changesL l := ⟨_, rfl⟩
  have hcl := changes_len (rules_len h)
  have E1 := Aside0.mk (show laws_b10Long.f b0 b1 = some false by have := hB0.1; have := hB1.1; unfold laws_b10Long.f; rw [if_neg (by omega), decide_eq_false (by omega)])
  have E2 := Aside0.mk e2
  have E3 := Aside0.mk (show impl_ChangeDays.f l = some (ch, true) by
    unfold impl_ChangeDays.f impl_AreRules.f impl_changes.f
    rw [h]
    simp only [Option.bind_some, if_true]
    rw [if_pos (rules_len h), hch]
    rfl)
  have E4 := Aside0.mk (show spec_ChangeDays.f k l = some (ch, true) by
    unfold spec_ChangeDays.f spec_l05Rules.f
    rw [h]
    simp only [Option.bind_some, if_true]
    rw [spec_changes_eq h (by omega), hch]
    rfl)
  have E5 := Aside0.mk (show laws_b10Ints.f k ch ch = some true by rw [hch, ints_eq _ _ (by omega) (by omega), decide_eq_true rfl])
  have E6 := Aside0.mk e6
  have E7 := Aside0.mk e7
  obtain ⟨ye, hye⟩ : ∃ ye, ye = yesOn l fa (1 + v) := ⟨_, rfl⟩
  obtain ⟨te, hte⟩ : ∃ te, te = cnt ye 0 10 := ⟨_, rfl⟩
  obtain ⟨tl, htl⟩ : ∃ tl, tl = cnt ye 10 11 := ⟨_, rfl⟩
  have hsum : cnt ye 0 21 = te + tl := by rw [hte, htl]; exact cnt_add ye 0 10 11
  have hbe : 0 ≤ te ∧ te ≤ 10 := by rw [hte]; exact cnt_le _ _ _
  have hbl : 0 ≤ tl ∧ tl ≤ 11 := by rw [htl]; exact cnt_le _ _ _
  have hte0 := hbe.1
  have hte1 := hbe.2
  have htl0 := hbl.1
  have htl1 := hbl.2
  have E8 := Aside0.mk (show impl_DaysProved.f l fa (1 + v) 0 20 = some (te + tl, true) by rw [days_eq h fa hf hx (by omega) (by omega) (by omega), ← hye, ← hsum]; rfl)
  have E9 := Aside0.mk (show impl_DaysProved.f l fa (1 + v) 0 9 = some (te, true) by rw [days_eq h fa hf hx (by omega) (by omega) (by omega), ← hye, hte]; rfl)
  have E10 := Aside0.mk (show impl_DaysProved.f l fa (1 + v) 10 20 = some (tl, true) by rw [days_eq h fa hf hx (by omega) (by omega) (by omega), ← hye, htl]; rfl)
  have E11 := Aside0.mk (show spec_ActiveRules.f l 0 = some (actIdx 0 l, true) from actFull h (by decide))
  have HB := Aside0.mk (((Bun.start w).addB h0).addB h1)
  have HR := Aside0.mk h
  have H8 := Aside0.mk h8
  have HF := Aside0.mk hf
  have HX := Aside0.mk hx
  have HK := Aside0.mk hk
  have HCH := Aside0.mk hch
  have HYE := Aside0.mk hye
  have HSUM := Aside0.mk hsum
  have HBB := Aside0.mk hB1
  obtain ⟨bef0, hbef0⟩ : ∃ bef0, bef0 = actIdx 0 l := ⟨_, rfl⟩
  rw [← hbef0] at E11
  clear h0 h1 hB0 hB1 e2 hdr h8 h e6 hf e7 hx hch hcl hye hte htl hsum hbe hbl hk hbef0
  go_enter Tryz.func3, Tryz.ntmps3
  go_upto_region 9 with (first
    | (go_at_call 5; (with_reducible refine (c_long HB.out.holds.1.2 HB.out.holds.2 E1.out).mono ?_); rintro e w1 ⟨rfl, hb⟩; have n1 := Aside0.mk (HB.out.later hb); clear HB hb; have HB := n1; clear n1)
    | (go_at_call 6; (with_reducible refine (c_rules HB.out.holds.1.2 E2.out).mono ?_); rintro e w2 ⟨Al, cl, rfl, hq, hb⟩; have n1 := Aside0.mk ((HB.out.later hb).addL hq); clear HB hb hq; have HB := n1; clear n1)
    | (go_at_call 7; (with_reducible refine (c_change1 HB.out.holds.2 E3.out).mono ?_); rintro e w3 ⟨Ac, cc, rfl, hq, hb⟩; have n1 := Aside0.mk ((HB.out.later hb).addI hq); clear HB hb hq; have HB := n1; clear n1)
    | (go_at_call 8; (with_reducible refine (c_change2 HB.out.holds.1.2 E4.out).mono ?_); rintro e w4 ⟨Ad, cd, rfl, hq, hb⟩; have n1 := Aside0.mk ((HB.out.later hb).addI hq); clear HB hb hq; have HB := n1; clear n1)
    | (go_at_call 9; (with_reducible refine (c_ints HB.out.holds.1.2 HB.out.holds.2 E5.out).mono ?_); rintro e w5 ⟨rfl, hb⟩; have n1 := Aside0.mk (HB.out.later hb); clear HB hb; have HB := n1; clear n1)
    | (go_at_call 10; (with_reducible refine (c_facts HB.out.holds.1.1.1.2 E6.out).mono ?_); rintro e w6 ⟨Af, cf, rfl, hq, hb⟩; have n1 := Aside0.mk ((HB.out.later hb).addI hq); clear HB hb hq; have HB := n1; clear n1))
  have n1 := Aside0.mk (HB.out.sub (G := AmF Al cl l Ac cc ch Af cf fa A1 c1 b1) (fun _ q => ⟨q.1.1.1.2, q.1.1.2, q.2, q.1.1.1.1.2⟩) AmF.later)
  clear HB
  have HB := n1
  clear n1
  go_upto_region 11 with (first
    | (go_at_call 11; (with_reducible refine (c_at HB.out.holds.b E7.out).mono ?_); rintro e w7 ⟨rfl, hb⟩; have n1 := Aside0.mk (HB.out.later hb); clear HB hb; have HB := n1; clear n1)
    | (go_at_call 12; (with_reducible refine (c_days HB.out.holds.l HB.out.holds.f E8.out).mono ?_); rintro e w8 ⟨rfl, hb⟩; have n1 := Aside0.mk (HB.out.later hb); clear HB hb; have HB := n1; clear n1))
  go_upto_region 12 with (go_at_call 12; (with_reducible refine (c_days HB.out.holds.l HB.out.holds.f E9.out).mono ?_); rintro e w9 ⟨rfl, hb⟩; have n1 := Aside0.mk (HB.out.later hb); clear HB hb; have HB := n1; clear n1)
  go_upto_region 13 with (go_at_call 12; (with_reducible refine (c_days HB.out.holds.l HB.out.holds.f E10.out).mono ?_); rintro e w10 ⟨rfl, hb⟩; have n1 := Aside0.mk (HB.out.later hb); clear HB hb; have HB := n1; clear n1)
  go_wp2_with (go_at_call 13; (with_reducible refine (c_active HB.out.holds.l E11.out).mono ?_); rintro e w11 ⟨Ab, cb, rfl, hq, hb⟩; have n1 := Aside0.mk ((HB.out.later hb).addI hq); clear HB hb hq; have HB := n1; clear n1)
  go_loopg [18, 19, 21] 21 (fun gg v18 v19 v21 wr => ∃ (n : Nat) (cn : Int) (Ab : Option Addr) (cb : Nat) (bef : List Int), n ≤ 21 ∧ 21 - n ≤ gg ∧ v21 = .int .i64 n ∧ v18 = .int .i64 cn ∧ v19 = .slice Ab bef.length cb ∧ Aside0 (Bun w (fun W => AmF Al cl l Ac cc ch Af cf fa A1 c1 b1 W ∧ RdI W Ab cb bef) wr) ∧ Aside0 (cn = cnt ye 0 n) ∧ Aside0 (0 < n → bef = actIdx ((n : Int) - 1) l))
  case atStart => exact ⟨0, 0, Ab, cb, bef0, Nat.zero_le _, by omega, rfl, rfl, rfl, HB, ⟨rfl⟩, ⟨by omega⟩⟩
  case round =>
    clear HB E1 E2 E3 E4 E5 E6 E7 E8 E9 E10 E11
    obtain ⟨n, cn, Ab, cb, bef, hn, hg, rfl, rfl, rfl, HB, HC, HI⟩ := hrel
    by_cases hlt : n < 21
    · have hltz : (n : Int) ≤ 20 := by omega
      have hdb : dayB (n : Int) = true := by simp [dayB]; omega
      obtain ⟨ys, hys⟩ : ∃ ys, ys = wordsOf (YesP (l.filter (onB (n : Int))) fa) := ⟨_, rfl⟩
      obtain ⟨ns, hns⟩ : ∃ ns, ns = wordsOf (NoP (l.filter (onB (n : Int))) fa) := ⟨_, rfl⟩
      obtain ⟨ac, hac⟩ : ∃ ac, ac = actIdx (n : Int) l := ⟨_, rfl⟩
      have HAC := Aside0.mk hac
      have hacl : ac.length ≤ 8 := by have := actIdx_le (n : Int) l; have := H8.out; rw [hac]; omega
      have E1 := Aside0.mk (show spec_AnswersOf.f l fa (n : Int) = some (ys, ns, true) by unfold spec_AnswersOf.f; rw [HR.out, HF.out, hdb, hys, hns]; rfl)
      have E2 := Aside0.mk (show spec_ActiveRules.f l (n : Int) = some (ac, true) by rw [hac]; exact actFull HR.out hdb)
      obtain ⟨yb, hyb⟩ : ∃ yb, yb = ye (n : Int) := ⟨_, rfl⟩
      have E3 := Aside0.mk (show laws_b10Has.f k ys (1 + v) = some yb by
        have hwl := wordsOf_len (YesP (l.filter (onB (n : Int))) fa)
        rw [hys, has_eq _ _ (by omega) (by have := HK.out; omega), hyb, HYE.out]
        congr 1
        unfold yesOn
        have hm := mem_wordsOf (P := YesP (l.filter (onB (n : Int))) fa) HX.out
        by_cases hp : YesP (l.filter (onB (n : Int))) fa (1 + v)
        · rw [decide_eq_true (hm.2 hp)]; exact (@decide_eq_true _ (Classical.propDecidable _) hp).symm
        · rw [decide_eq_false (fun q => hp (hm.1 q))]; exact (@decide_eq_false _ (Classical.propDecidable _) hp).symm)
      have E4 := Aside0.mk (show impl_RulesAt.f k l (n : Int) = some ((l.filter (onB (n : Int))).map (atDay (n : Int)), true) from rulesAt_eq HR.out hdb (by have := HK.out; omega))
      have E5 := Aside0.mk (show ((l.filter (onB (n : Int))).map (atDay (n : Int))).length = ac.length by rw [List.length_map, hac, actIdx_len])
      obtain ⟨hb2, hhb2⟩ : ∃ hb2, hb2 = decide ((n : Int) ∈ ch) := ⟨_, rfl⟩
      have hclen : ch.length ≤ 48 := by have := changes_len (rules_len HR.out); rw [HCH.out]; exact this
      have E6 := Aside0.mk (show laws_b10Has.f k ch (n : Int) = some hb2 by rw [has_eq _ _ (by omega) (by have := HK.out; omega), hhb2])
      have E7 := Aside0.mk (show 0 < n → laws_b10Ints.f k ac bef = some (!hb2) by
        intro hn0
        rw [ints_eq _ _ (by omega) (by have := HK.out; omega), HI.out hn0, hac, hhb2, HCH.out]
        congr 1
        have hiff := changes_iff HR.out (d := (n : Int)) (by omega) (by omega)
        by_cases hm : (n : Int) ∈ changesL l
        · rw [decide_eq_true hm, decide_eq_false (fun e => hiff.1 e hm)]; rfl
        · rw [decide_eq_false hm, decide_eq_true (hiff.2 hm)]; rfl)
      have hcn := cnt_le ye 0 n
      rw [← HC.out] at hcn
      have hcn0 := hcn.1
      have hcn1 : cn ≤ 21 := by omega
      obtain ⟨cn2, hcn2⟩ : ∃ cn2, cn2 = cnt ye 0 (n + 1) := ⟨_, rfl⟩
      have HC2 := Aside0.mk (show cn2 = cn + if yb = true then 1 else 0 by rw [hcn2, cnt, ← HC.out, hyb, Int.zero_add])
      have HC3 := Aside0.mk hcn2
      clear hcn hcn2
      clear hdb hys hns hac hyb hhb2 hclen
      go_upto_region 22 with (first
        | (go_at_call 14; (with_reducible refine (c_answers HB.out.holds.1.l HB.out.holds.1.f E1.out).mono ?_); rintro e w1 ⟨Ay, cy, An, cn', rfl, hq, hq2, hb⟩; have n1 := Aside0.mk ((HB.out.later hb).addI hq); clear HB hb hq hq2; have HB := n1; clear n1)
        | (go_at_call 13; (with_reducible refine (c_active HB.out.holds.1.1.l E2.out).mono ?_); rintro e w2 ⟨Aa, ca, rfl, hq, hb⟩; have n1 := Aside0.mk ((HB.out.later hb).addI hq); clear HB hb hq; have HB := n1; clear n1))
      go_cut [159] (fun v159 wc => v159 = .bool false ∧ Aside0 (Bun w (fun W => AmF Al cl l Ac cc ch Af cf fa A1 c1 b1 W ∧ RdI W Ay cy ys ∧ RdI W Aa ca ac) wc))
      case first =>
        by_cases hn0 : 0 < n
        · have hn0z : (0 : Int) < (n : Int) := by omega
          have E8 := Aside0.mk (E7.out hn0)
          cases hb2 with
          | true =>
            go_wp2_with (first
              | (go_at_call 9; (with_reducible refine (c_ints HB.out.holds.2 HB.out.holds.1.1.2 E8.out).mono ?_); rintro e w1 ⟨rfl, hb⟩; have n1 := Aside0.mk (HB.out.later hb); clear HB hb; have HB := n1; clear n1)
              | (go_at_call 15; (with_reducible refine (c_has HB.out.holds.1.1.1.c E6.out).mono ?_); rintro e w1 ⟨rfl, hb⟩; have n1 := Aside0.mk (HB.out.later hb); clear HB hb; have HB := n1; clear n1))
            go_meet
            case rel => exact ⟨rfl, ⟨HB.out.sub (fun _ q => ⟨q.1.1.1, q.1.2, q.2⟩) (fun _ _ hb q => ⟨AmF.later _ _ hb q.1, q.2.1.later hb, q.2.2.later hb⟩)⟩⟩
          | false =>
            go_wp2_with (first
              | (go_at_call 9; (with_reducible refine (c_ints HB.out.holds.2 HB.out.holds.1.1.2 E8.out).mono ?_); rintro e w1 ⟨rfl, hb⟩; have n1 := Aside0.mk (HB.out.later hb); clear HB hb; have HB := n1; clear n1)
              | (go_at_call 15; (with_reducible refine (c_has HB.out.holds.1.1.1.c E6.out).mono ?_); rintro e w1 ⟨rfl, hb⟩; have n1 := Aside0.mk (HB.out.later hb); clear HB hb; have HB := n1; clear n1))
            go_meet
            case rel => exact ⟨rfl, ⟨HB.out.sub (fun _ q => ⟨q.1.1.1, q.1.2, q.2⟩) (fun _ _ hb q => ⟨AmF.later _ _ hb q.1, q.2.1.later hb, q.2.2.later hb⟩)⟩⟩
        · have hn0z : ¬ (0 : Int) < (n : Int) := by omega
          go_wp2
          go_meet
          case rel => exact ⟨rfl, ⟨HB.out.sub (fun _ q => ⟨q.1.1.1, q.1.2, q.2⟩) (fun _ _ hb q => ⟨AmF.later _ _ hb q.1, q.2.1.later hb, q.2.2.later hb⟩)⟩⟩
      case rest =>
        clear HB
        obtain ⟨rfl, HB⟩ := hcut
        go_upto_if 163 with (go_at_call 15; (with_reducible refine (c_has HB.out.holds.2.1 E3.out).mono ?_); rintro e w3 ⟨rfl, hb⟩; have n1 := Aside0.mk (HB.out.later hb); clear HB hb; have HB := n1; clear n1)
        go_cut [18] (fun v18 wc => v18 = .int .i64 cn2 ∧ Aside0 (Bun w (fun W => AmF Al cl l Ac cc ch Af cf fa A1 c1 b1 W ∧ RdI W Ay cy ys ∧ RdI W Aa ca ac) wc))
        case first =>
          cases yb with
          | true =>
            go_wp2
            go_meet
            case rel => exact ⟨by have := HC2.out; simp at this; rw [this], HB⟩
          | false =>
            go_wp2
            go_meet
            case rel => exact ⟨by have := HC2.out; simp at this; rw [this], HB⟩
        case rest =>
          clear HB
          obtain ⟨rfl, HB⟩ := hcut
          go_wp2_with (go_at_call 16; (with_reducible refine (c_rulesAt HB.out.holds.1.l E4.out E5.out).mono ?_); rintro e w4 ⟨At, ct, rfl, hq, hb⟩; have n1 := Aside0.mk ((HB.out.later hb).addL hq); clear HB hb hq; have HB := n1; clear n1)
          go_loopg [183] ac.length (fun gg v183 wr => ∃ j : Nat, j ≤ ac.length ∧ ac.length - j ≤ gg ∧ v183 = .int .i64 j ∧ Aside0 (Bun w (fun W => (AmF Al cl l Ac cc ch Af cf fa A1 c1 b1 W ∧ RdI W Ay cy ys ∧ RdI W Aa ca ac) ∧ RdL W At ct ((l.filter (onB (n : Int))).map (atDay (n : Int)))) wr))
          case atStart => exact ⟨0, Nat.zero_le _, by omega, rfl, HB⟩
          case round =>
            clear HB
            obtain ⟨j, hj, hg2, rfl, HB⟩ := hrel
            by_cases hjl : j < ac.length
            · have hjz : (j : Int) < (ac.length : Int) := by omega
              obtain ⟨ad, At1, ct1, x1, e, hge, hmem, hdr, hx0, hx1, hx2, hx3, hx4, hl1, hi1, HKr⟩ := elem41k HB.out.holds.2.rd (Below.refl _ _) (show j < ((l.filter (onB (n : Int))).map (atDay (n : Int))).length by rw [E5.out]; exact hjl)
              cases e
              clear hmem hdr hx1 hx4 hl1 hi1 HKr
              obtain ⟨ad2, e, hy0⟩ := Kd.at_int HB.out.holds.1.2.2.rd (j : Int) (by omega) hjz
              cases e
              obtain ⟨i, hi1, hi2, hi3⟩ := actFrom_at (n : Int) l 0 j (show j < (actFrom (n : Int) 0 l).length by have := HAC.out; show j < (actIdx (n : Int) l).length; rw [← this]; exact hjl)
              have hri : rd ac (j : Int) = (i : Int) := by rw [rd_nat, HAC.out]; rw [Nat.zero_add] at hi1; exact hi1
              rw [hri] at hy0
              simp only [Int.toNat_natCast] at hy0
              obtain ⟨ad3, A3, c3, x3, e, hge3, _, _, hz0, _, _, _, _, _, _, _⟩ := elem41k HB.out.holds.1.1.l.rd (Below.refl _ _) hi2
              cases e
              have hfl : (l.filter (onB (n : Int))).length = ac.length := by rw [← E5.out, List.length_map]
              have hxx : x1 = atDay (n : Int) x3 := by
                rw [← hge, ← hge3, ← hi3, List.getD_eq_getElem?_getD, List.getElem?_map, List.getElem?_eq_getElem (by omega), List.getD_eq_getElem?_getD, List.getElem?_eq_getElem (by omega)]
                rfl
              subst hxx
              replace hx0 : wr.cell? (ad.add (j * 5)) = some (.int .i64 x3.f0) := hx0
              replace hx2 : wr.cell? ⟨(ad.add (j * 5)).block, (ad.add (j * 5)).off + 2, none⟩ = some (.int .i64 (n : Int)) := hx2
              replace hx3 : wr.cell? ⟨(ad.add (j * 5)).block, (ad.add (j * 5)).off + 3, none⟩ = some (.int .i64 (n : Int)) := hx3
              have hiz : (i : Int) < (l.length : Int) := by omega
              clear hge hge3 hi1 hi2 hi3 hri hfl
              go_upto_region 33 with (fail)
              go_quiet (fail)
              go_wp2
              go_roundg (ac.length - (j + 1))
              case measure => omega
              case rel => exact ⟨j + 1, by omega, by omega, by go_num, ⟨by repeat (first | exact HB.out | apply Bun.drewN | apply Bun.drew)⟩⟩
            · have hjz : ¬ (j : Int) < (ac.length : Int) := by omega
              go_wp2
              go_roundg (21 - (n + 1))
              case measure => omega
              case rel => exact ⟨n + 1, cn2, Aa, ca, ac, by omega, by omega, by go_num, rfl, rfl, ⟨HB.out.sub (fun _ q => ⟨q.1.1, q.1.2.2⟩) (fun _ _ hb q => ⟨AmF.later _ _ hb q.1, q.2.later hb⟩)⟩, ⟨HC3.out⟩, ⟨fun _ => by rw [show (((n + 1 : Nat) : Int) - 1) = (n : Int) by omega]; exact HAC.out⟩⟩
    · have hltz : ¬ (n : Int) ≤ 20 := by omega
      have hcn : cn = te + tl := by have := HC.out; rw [show n = 21 by omega, HSUM.out] at this; exact this
      subst hcn
      by_cases hz : l.length = 0
      · have hzz : ((l.length : Int) == 0) = true := by simp [hz]
        clear hz
        go_wp2
        go_ret
        exact ⟨rfl, HB.out.below⟩
      · have hzz : ((l.length : Int) == 0) = false := by rw [beq_eq_false_iff_ne]; omega
        obtain ⟨v2, e1, hv20, hv21⟩ := at_ok HBB.out 2 (l.length : Int) (by omega) (by omega) (by have := H8.out; omega)
        obtain ⟨d, e2, hd0, hd1⟩ := at_ok HBB.out 3 16 (by omega) (by omega) (by omega)
        obtain ⟨i, rfl⟩ : ∃ i : Nat, v2 = i := ⟨v2.toNat, by omega⟩
        have hi : i < l.length := by omega
        have E1 := Aside0.mk e1
        have E2 := Aside0.mk e2
        have hd2 : d ≤ 15 := by omega
        have E3 := Aside0.mk (spec_amend_eq HR.out H8.out hi hd0 (by omega) (k := k) (by have := HK.out; omega))
        have E4 := Aside0.mk (impl_amend_eq HR.out H8.out hi hd0 (by omega) (k := k) (by have := HK.out; omega))
        have E5 := Aside0.mk (repeal_eq HR.out H8.out hi hd0 (by omega) (k := k) (by have := HK.out; omega))
        have hiz : (i : Int) < (l.length : Int) := by omega
        clear e1 e2 hv20 hv21 hd1 hz hltz HI
        have hltz : ¬ (n : Int) ≤ 20 := by omega
        go_upto_region 41 with (go_at_call 11; (with_reducible refine (c_at HB.out.holds.1.b E1.out).mono ?_); rintro e w1 ⟨rfl, hb⟩; have n1 := Aside0.mk (HB.out.later hb); clear HB hb; have HB := n1; clear n1)
        go_upto_region 43 with (go_at_call 11; (with_reducible refine (c_at HB.out.holds.1.b E2.out).mono ?_); rintro e w1 ⟨rfl, hb⟩; have n1 := Aside0.mk (HB.out.later hb); clear HB hb; have HB := n1; clear n1)
        obtain ⟨W2, hW2, _, hBk, hBel⟩ := two_boxes w1 #[.int .i64 1] #[.int .i64 2, .slice (some ⟨w1.heap.size, 0, none⟩) 1 1, .int .i64 0, .int .i64 30, .int .i64 1] 2 41
        have RI : RdI W2 (some ⟨w1.heap.size, 0, none⟩) 1 [1] := by
          obtain ⟨_, _, hR⟩ := Kd.R_reads' (R_one w1 0 1 (Nat.zero_le _))
          rw [← hW2]
          exact ⟨Kd.C_below hR (below_alloc (Below.refl _ _) _), Nat.le_refl _⟩
        rw [hW2]
        have n1 := Aside0.mk (((HB.out.later hBel).addI RI).addC hBk)
        clear HB hW2 RI hBk hBel
        have HB := n1
        clear n1
        have hk0 : W2.cell? ⟨w1.heap.size + 1, 0, none⟩ = some (.int .i64 2) := blk_cell HB.out.holds.2 0
        have hk1 : W2.cell? ⟨w1.heap.size + 1, 1, none⟩ = some (.slice (some ⟨w1.heap.size, 0, none⟩) 1 1) := blk_cell HB.out.holds.2 1
        have hk2 : W2.cell? ⟨w1.heap.size + 1, 2, none⟩ = some (.int .i64 0) := blk_cell HB.out.holds.2 2
        have hk3 : W2.cell? ⟨w1.heap.size + 1, 3, none⟩ = some (.int .i64 30) := blk_cell HB.out.holds.2 3
        have hk4 : W2.cell? ⟨w1.heap.size + 1, 4, none⟩ = some (.int .i64 1) := blk_cell HB.out.holds.2 4
        cases he : endsB l i d with
        | false =>
          have F3 := Aside0.mk (E3.out.trans (show some (if endsB l i d then (endedL l i d ++ [newRule d], true) else ([], false)) = some ([], false) by rw [he]; rfl))
          have F4 := Aside0.mk (E4.out.trans (show some (if endsB l i d then (endedL l i d ++ [newRule d], true) else ([], false)) = some ([], false) by rw [he]; rfl))
          have F5 := Aside0.mk (E5.out.trans (show some (if endsB l i d then (endedL l i d, true) else ([], false)) = some ([], false) by rw [he]; rfl))
          clear he E3 E4 E5
          go_upto_region 44 with (go_at_call 17; (with_reducible refine (c_amend1o HB.out.holds.1.1.1.l HB.out.holds.1.2 F3.out).mono ?_); rintro e w2 ⟨Ax, cx, rfl, hq, hb⟩; have n1 := Aside0.mk (HB.out.later hb); clear HB hb; have HB := n1; clear n1)
          clear hk0 hk1 hk2 hk3 hk4
          have hk0 : w2.cell? ⟨w1.heap.size + 1, 0, none⟩ = some (.int .i64 2) := blk_cell HB.out.holds.2 0
          have hk1 : w2.cell? ⟨w1.heap.size + 1, 1, none⟩ = some (.slice (some ⟨w1.heap.size, 0, none⟩) 1 1) := blk_cell HB.out.holds.2 1
          have hk2 : w2.cell? ⟨w1.heap.size + 1, 2, none⟩ = some (.int .i64 0) := blk_cell HB.out.holds.2 2
          have hk3 : w2.cell? ⟨w1.heap.size + 1, 3, none⟩ = some (.int .i64 30) := blk_cell HB.out.holds.2 3
          have hk4 : w2.cell? ⟨w1.heap.size + 1, 4, none⟩ = some (.int .i64 1) := blk_cell HB.out.holds.2 4
          go_upto_region 45 with (go_at_call 18; (with_reducible refine (c_amend2o HB.out.holds.1.1.1.l HB.out.holds.1.2 F4.out rfl).mono ?_); rintro e w3 ⟨Ay, cy, rfl, hq, hb⟩; have n1 := Aside0.mk (HB.out.later hb); clear HB hb; have HB := n1; clear n1)
          clear hk0 hk1 hk2 hk3 hk4
          go_wp2_with (go_at_call 19; (with_reducible refine (c_repeal HB.out.holds.1.1.1.l F5.out).mono ?_); rintro e w4 ⟨Az, cz, rfl, hq, hb⟩; have n1 := Aside0.mk (HB.out.later hb); clear HB hb; have HB := n1; clear n1)
          go_ret
          exact ⟨rfl, HB.out.below⟩
        | true =>
          have F3 := Aside0.mk (E3.out.trans (show some (if endsB l i d then (endedL l i d ++ [newRule d], true) else ([], false)) = some (endedL l i d ++ [newRule d], true) by rw [he]; rfl))
          have F4 := Aside0.mk (E4.out.trans (show some (if endsB l i d then (endedL l i d ++ [newRule d], true) else ([], false)) = some (endedL l i d ++ [newRule d], true) by rw [he]; rfl))
          have F5 := Aside0.mk (E5.out.trans (show some (if endsB l i d then (endedL l i d, true) else ([], false)) = some (endedL l i d, true) by rw [he]; rfl))
          have hlen : (endedL l i d ++ [newRule d]).length = l.length + 1 := by rw [List.length_append, ended_len]; rfl
          have HE := Aside0.mk he
          have heb := endsB_iff.1 he
          have hv := rule_days (rules_all HR.out _ (getD_mem (z := z41) hi))
          have hd1 : 1 ≤ d := by omega
          have F6 := Aside0.mk (show spec_ActiveRules.f (endedL l i d ++ [newRule d]) (d - 1) = some (actIdx (d - 1) l, true) by
            rw [actFull (amended_ok HR.out H8.out hi he (by omega)) (by simp [dayB]; omega), before_same HR.out hi he])
          have F7 := Aside0.mk (show spec_ActiveRules.f l (d - 1) = some (actIdx (d - 1) l, true) from actFull HR.out (by simp [dayB]; omega))
          obtain ⟨ac, hac⟩ : ∃ ac, ac = actIdx (d - 1) l := ⟨_, rfl⟩
          have hacl : ac.length ≤ 8 := by have := actIdx_le (d - 1) l; have := H8.out; rw [hac]; omega
          rw [← hac] at F6 F7
          have F8 := Aside0.mk (show laws_b10Ints.f k ac ac = some true by rw [ints_eq _ _ (by omega) (by have := HK.out; omega), decide_eq_true rfl])
          have G1 := Aside0.mk (show (endedL l i d ++ [newRule d]).getD l.length z41 = newRule d by
            rw [List.getD_eq_getElem?_getD, List.getElem?_append_right (by rw [ended_len]; omega), ended_len]
            simp)
          have G2 := Aside0.mk (show ((endedL l i d ++ [newRule d]).getD i z41).f3 = d - 1 by
            rw [List.getD_eq_getElem?_getD, List.getElem?_append_left (by rw [ended_len]; exact hi)]
            unfold endedL
            rw [List.getElem?_set_self hi]
            rfl)
          have G3 := Aside0.mk (show ((endedL l i d).getD i z41).f3 = d - 1 by
            rw [List.getD_eq_getElem?_getD]
            unfold endedL
            rw [List.getElem?_set_self hi]
            rfl)
          obtain ⟨am, ham⟩ : ∃ am, am = endedL l i d ++ [newRule d] := ⟨_, rfl⟩
          rw [← ham] at F3 F4 F6 G1 G2 hlen
          obtain ⟨en, hen⟩ : ∃ en, en = endedL l i d := ⟨_, rfl⟩
          rw [← hen] at F5 G3
          have HL1 := Aside0.mk hlen
          have HL2 := Aside0.mk (show en.length = l.length by rw [hen, ended_len])
          have HI := Aside0.mk hi
          clear he E3 E4 E5 heb hv hac ham hen hlen hi
          go_upto_region 44 with (go_at_call 17; (with_reducible refine (c_amend1o HB.out.holds.1.1.1.l HB.out.holds.1.2 F3.out).mono ?_); rintro e w2 ⟨Ax, cx, rfl, hq, hb⟩; have n1 := Aside0.mk (HB.out.later hb); clear HB hb; have HB := n1; clear n1)
          clear hk0 hk1 hk2 hk3 hk4
          have hk0 : w2.cell? ⟨w1.heap.size + 1, 0, none⟩ = some (.int .i64 2) := blk_cell HB.out.holds.2 0
          have hk1 : w2.cell? ⟨w1.heap.size + 1, 1, none⟩ = some (.slice (some ⟨w1.heap.size, 0, none⟩) 1 1) := blk_cell HB.out.holds.2 1
          have hk2 : w2.cell? ⟨w1.heap.size + 1, 2, none⟩ = some (.int .i64 0) := blk_cell HB.out.holds.2 2
          have hk3 : w2.cell? ⟨w1.heap.size + 1, 3, none⟩ = some (.int .i64 30) := blk_cell HB.out.holds.2 3
          have hk4 : w2.cell? ⟨w1.heap.size + 1, 4, none⟩ = some (.int .i64 1) := blk_cell HB.out.holds.2 4
          go_upto_region 45 with (go_at_call 18; (with_reducible refine (c_amend2o HB.out.holds.1.1.1.l HB.out.holds.1.2 F4.out HL1.out).mono ?_); rintro e w3 ⟨Am, cm, rfl, hq, hb⟩; have n1 := Aside0.mk ((HB.out.later hb).addL hq); clear HB hb; have HB := n1; clear n1)
          clear hk0 hk1 hk2 hk3 hk4
          go_upto_region 50 with (go_at_call 19; (with_reducible refine (c_repealm HB.out.holds.1.1.1.1.l F5.out HL2.out).mono ?_); rintro e w4 ⟨Ae, ce, rfl, hq, hb⟩; have n1 := Aside0.mk ((HB.out.later hb).addL hq); clear HB hb; have HB := n1; clear n1)
          obtain ⟨ad, Aq, cq, x1, e, hge, _, _, hx0, hx1, hx2, hx3, hx4, _, _, _⟩ := elem41k HB.out.holds.1.2.rd (Below.refl _ _) (show l.length < am.length by rw [HL1.out]; omega)
          cases e
          obtain rfl : x1 = newRule d := by rw [← hge, G1.out]
          replace hx0 : w4.cell? (ad.add (l.length * 5)) = some (.int .i64 2) := hx0
          replace hx1 : w4.cell? ⟨(ad.add (l.length * 5)).block, (ad.add (l.length * 5)).off + 1, none⟩ = some (.slice Aq 1 cq) := hx1
          replace hx2 : w4.cell? ⟨(ad.add (l.length * 5)).block, (ad.add (l.length * 5)).off + 2, none⟩ = some (.int .i64 d) := hx2
          replace hx3 : w4.cell? ⟨(ad.add (l.length * 5)).block, (ad.add (l.length * 5)).off + 3, none⟩ = some (.int .i64 30) := hx3
          replace hx4 : w4.cell? ⟨(ad.add (l.length * 5)).block, (ad.add (l.length * 5)).off + 4, none⟩ = some (.int .i64 1) := hx4
          clear hge
          have h8l := H8.out
          go_upto_region 51 with (fail)
          clear hx0 hx1 hx2 hx3 hx4
          obtain ⟨W5, hW5, hB5, hBel5⟩ := one_box w4 #[.int .i64 2, .slice Aq 1 cq, .int .i64 d, .int .i64 30, .int .i64 1] 41
          rw [hW5]
          have hq2 : W5.cell? ⟨w4.heap.size, 2, none⟩ = some (.int .i64 d) := blk_cell hB5 2
          have hq3 : W5.cell? ⟨w4.heap.size, 3, none⟩ = some (.int .i64 30) := blk_cell hB5 3
          have n1 := Aside0.mk (HB.out.later hBel5)
          clear HB hW5 hB5 hBel5
          have HB := n1
          clear n1
          obtain ⟨ad1, _, _, x1, e, hge, _, _, _, _, _, hx3, _, _, _, _⟩ := elem41k HB.out.holds.1.2.rd (Below.refl _ _) (show i < am.length by have := HI.out; rw [HL1.out]; omega)
          cases e
          rw [hge] at G2
          rw [G2.out] at hx3
          obtain ⟨ad2, _, _, x2, e, hge2, _, _, _, _, _, hy3, _, _, _, _⟩ := elem41k HB.out.holds.2.rd (Below.refl _ _) (show i < en.length by have := HI.out; rw [HL2.out]; omega)
          cases e
          rw [hge2] at G3
          rw [G3.out] at hy3
          have hiz2 : (i : Int) < (l.length : Int) + 1 := by omega
          clear hge hge2
          go_upto_region 53 with (fail)
          clear hq2 hq3 hx3 hy3
          go_upto_region 54 with (go_at_call 13; (with_reducible refine (c_activem HB.out.holds.1.2 F6.out HL1.out).mono ?_); rintro e w6 ⟨Ag, cg, rfl, hq, hb⟩; have n1 := Aside0.mk ((HB.out.later hb).addI hq); clear HB hb; have HB := n1; clear n1)
          go_wp2_with (first
            | (go_at_call 13; (with_reducible refine (c_active HB.out.holds.1.1.1.1.1.1.l F7.out).mono ?_); rintro e w7 ⟨Ah, ch2, rfl, hq, hb⟩; have n1 := Aside0.mk ((HB.out.later hb).addI hq); clear HB hb; have HB := n1; clear n1)
            | (go_at_call 9; (with_reducible refine (c_ints HB.out.holds.1.2 HB.out.holds.2 F8.out).mono ?_); rintro e w8 ⟨rfl, hb⟩; have n1 := Aside0.mk (HB.out.later hb); clear HB hb; have HB := n1; clear n1))
          go_ret
          exact ⟨rfl, HB.out.below⟩
set_option maxHeartbeats 4000000 in
set_option maxRecDepth 100000 in
theorem am_long (b0 b1 : List Int) (A0 : Option Addr) (c0 : Nat) (A1 : Option Addr) (c1 : Nat) (w : World) (h0 : RdB w A0 c0 b0) (h1 : RdB w A1 c1 b1) (e : laws_b10Long.f b0 b1 = some true) :
    Calls Tryz.prog 3 #[.slice A0 b0.length c0, .slice A1 b1.length c1] w fun e w' => e = .returned (.bool true) ∧ Below w.heap.size w w' := by
  have K := Aside0.mk (c_long h0 h1 e)
  clear h0 h1 e
  go_enter Tryz.func3, Tryz.ntmps3
  go_wp2_with (go_at_call 5; (with_reducible refine K.out.mono ?_); rintro e w1 ⟨rfl, hb⟩)
  go_ret
  exact ⟨rfl, hb⟩
theorem bytes_of {l : List Int} (hl : ∀ x ∈ l, (Lit.int .u8 x).wf = true) : ∀ x ∈ l, 0 ≤ x ∧ x ≤ 255 := by
  intro x hx
  have h2 : IntKind.u8.min ≤ x ∧ x ≤ IntKind.u8.max := by simpa [Lit.wf] using hl x hx
  have e1 : IntKind.u8.min = 0 := by decide
  have e2 : IntKind.u8.max = 255 := by decide
  omega
/-- Whatever the two slices of bytes: the law returns true, and what lay in memory lies there as before. -/
theorem am_walk (a0 : Option Addr) (len0 cap0 : Nat) (z0 : List Int) (a1 : Option Addr) (len1 cap1 : Nat) (z1 : List Int) (w : World) (w0 : (a0 = none ∧ len0 = 0 ∧ cap0 = 0 ∧ z0 = []) ∨ ∃ x, a0 = some x ∧ len0 ≤ cap0 ∧ cap0 ≤ maxLen ∧ z0.length = cap0 ∧ (∀ i, i < z0.length → w.cell? (x.add i) = some (.int .u8 (z0.getD i 0))) ∧ ∀ n ∈ z0, (Lit.int .u8 n).wf = true) (y0 : len0 * 1 ≤ 140737488351232) (w1 : (a1 = none ∧ len1 = 0 ∧ cap1 = 0 ∧ z1 = []) ∨ ∃ x, a1 = some x ∧ len1 ≤ cap1 ∧ cap1 ≤ maxLen ∧ z1.length = cap1 ∧ (∀ i, i < z1.length → w.cell? (x.add i) = some (.int .u8 (z1.getD i 0))) ∧ ∀ n ∈ z1, (Lit.int .u8 n).wf = true) (y1 : len1 * 1 ≤ 140737488351232) :
    Calls Tryz.prog 3 #[.slice a0 len0 cap0, .slice a1 len1 cap1] w fun e w' => e = .returned (.bool true) ∧ Below w.heap.size w w' := by
  obtain ⟨l0, rfl, hr0, hm0, hw0, hc0⟩ := ReadsInt.ofRowC w0
  obtain ⟨l1, rfl, hr1, hm1, hw1, hc1⟩ := ReadsInt.ofRowC w1
  have h0 : RdB w a0 cap0 l0 := ⟨Kd.C_of_reads (d := (0 : Int)) (h1 := fun _ => rfl) hr0, hc0⟩
  have h1 : RdB w a1 cap1 l1 := ⟨Kd.C_of_reads (d := (0 : Int)) (h1 := fun _ => rfl) hr1, hc1⟩
  by_cases ha : (l0.length : Int) > 1048576
  · exact am_long l0 l1 a0 cap0 a1 cap1 w h0 h1 (by unfold laws_b10Long.f; rw [if_pos ha])
  · by_cases hb : (l1.length : Int) > 1048576
    · exact am_long l0 l1 a0 cap0 a1 cap1 w h0 h1 (by unfold laws_b10Long.f; rw [if_neg ha, decide_eq_true hb])
    · exact am_calls l0 l1 a0 cap0 a1 cap1 w h0 h1 ⟨by omega, bytes_of hw0⟩ ⟨by omega, bytes_of hw1⟩
end Go.Proofs.YtoippneeagaceaaGreat.PR

namespace Go.Proofs.YtoippneeagaceaaGreatW.PrintWords
open Go.ChangeShapes Go.WideShapes
/-- A row's slice of whole numbers is no longer than its weight allows. -/
theorem sized_ints {H : Type} {enc : TypeId × Value → H} {P : Program} {W : World} {base : Nat} {spare : Nat → Bool} {held : Bool} {t e : TypeId} {k : IntKind} {a : Option Addr} {len cap : Nat} {d : DataW H} {ps : List MemPlace} {ts : List TypeId} {ds : List (DataW H)} {j : Nat}
    (hsz : (DataW.weightsEach P ts ds).all (· ≤ reachBytes) = true) (ht : ts[j]? = some t) (hd : ds[j]? = some d) (hu : P.underlying t = some (.slice e)) (he : P.underlying e = some (.int k)) (hc : P.cellsOf e = 1) {B : Nat} (hB : P.bytesOf e = B)
    (h : DataW.Trod enc P W base spare held t (.slice a len cap) d ps) : len * B ≤ 140737488351232 := by
  obtain ⟨fuel, hf⟩ := h
  rcases open_ints hu he hc hf with ⟨hcs, _⟩ | ⟨x, l, c, zs, hcs, _, hl, _, hz, hx, _, _⟩
  · simp [Value.cells] at hcs
    obtain ⟨rfl, rfl, rfl⟩ := hcs
    simp
  · simp [Value.cells] at hcs
    obtain ⟨rfl, rfl, rfl⟩ := hcs
    obtain ⟨hx, _⟩ := Prod.mk.inj hx
    subst hx
    have z := sized_slice hsz ht hd hu
    rw [hB] at z
    have hl2 : len ≤ zs.length := by
      rw [hz]
      split
      · exact hl
      · exact Nat.le_refl _
    have h1 : (lits (H := H) k (zs.take len)).length + (lits (H := H) k (zs.drop len)).length = zs.length := by
      simp [lits]
      omega
    rw [h1] at z
    exact Nat.le_trans (Nat.mul_le_mul_right _ hl2) z
end Go.Proofs.YtoippneeagaceaaGreatW.PrintWords

