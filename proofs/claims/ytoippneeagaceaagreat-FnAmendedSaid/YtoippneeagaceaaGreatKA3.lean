/- Contracts and plain laws of functions of the given program: texts of this session, joined. -/
import Derived.ArgAppend
import Derived.Below
import Derived.BigQuiet
import Derived.Deep.AppendLies
import Derived.Deep.CutBlock
import Derived.Deep.DeepCutAuto
import Derived.Deep.Draws
import Derived.Deep.LoopGhost
import Derived.Deep.OwnRows
import Derived.Deep.QuietTactic
import Derived.Deep.RegionHeld3
import Derived.KernelRfl
import Derived.Laws.BitsLemmas
import Derived.Laws.BytesArg
import Derived.Laws.IdiomCopy
import Derived.Laws.MakeOwn
import Derived.Laws.OwnMore
import Derived.Laws.Rows
import Derived.Laws.Slices
import Derived.Laws.StructEq
import Derived.Lib.AppendStr
import Derived.Lib.ConvBytes
import Derived.Maps.AppendAt
import Derived.OrdersHeld
import Derived.OwnWalk
import Derived.RowKit
import Derived.RowKit3
import Derived.Tactics
import Derived.Test.YtoippneeagaceaaGreatKA1
import Derived.Test.YtoippneeagaceaaGreatKA2
import Derived.Test.YtoippneeagaceaaGreatProg
import Derived.WalkKit
import Derived.WideLaws
import Derived.Shelf.Abstract
namespace Go.Proofs.YtoippneeagaceaaGreat.PR
open Go.RowKit Go.Proofs.YtoippneeagaceaaGreatW.PrintWords Go.Proofs.YtoippneeagaceaaGreatW.PrintLast Go.Proofs.YtoippneeagaceaaGreatW.PrintMore
attribute [local go_sem] max2_int min2_int max_two min_two max_three min_three max_four min_four   -- for this text's walks alone
set_option linter.unusedVariables false
set_option linter.unusedSimpArgs false
/-! ### impl_areWords: function 76 -/
def impl_areWords.l0 : Nat → List Int → Int → List Int → Int → Int → Option (Bool)
  | 0, _, _, _, _, _ => none
  | k + 1, x0, x1, x7, x8, x9 => if x9 < x8 then (if 0 ≤ x9 then (if x9 < (x7.length : Int) then ((impl_isWord.f (rd x7 x9)).bind fun t224 => (if t224 = true then (if x9 > 0 then (if 0 ≤ (wrap64 (x9 - 1)) then (if (wrap64 (x9 - 1)) < (x0.length : Int) then ((impl_atom.f (rd x0 (wrap64 (x9 - 1)))).bind fun t226 => ((impl_atom.f (rd x7 x9)).bind fun t227 => (if t226 ≥ t227 then (some false) else (impl_areWords.l0 k x0 x1 x7 x8 (wrap64 (x9 + 1)))))) else (none)) else (none)) else (impl_areWords.l0 k x0 x1 x7 x8 (wrap64 (x9 + 1)))) else (some false))) else (none)) else (none)) else (some (decide ((x0.length : Int) ≤ x1)))
def impl_areWords.f (k : Nat) (l0 : List Int) (a1 : Int) : Option (Bool) := impl_areWords.l0 k l0 a1 l0 (l0.length : Int) 0
theorem impl_areWords.mono_l : ∀ k, (∀ y0 y1 y2 y3 y4, LeO (impl_areWords.l0 k y0 y1 y2 y3 y4) (impl_areWords.l0 (k + 1) y0 y1 y2 y3 y4))
  | 0 => fun _ _ _ _ _ r h => by simp [impl_areWords.l0] at h
  | k + 1 => by
    have ih0 := impl_areWords.mono_l k
    · intro y0 y1 y2 y3 y4
      unfold impl_areWords.l0
      repeat' first
      | (with_reducible exact ih0 _ _ _ _ _)
      | (with_reducible exact LeO.refl _)
      | (with_reducible exact LeO.none _)
      | (with_reducible refine LeO.ite ?_ ?_)
      | (with_reducible refine LeO.bind ?_ (fun _ => ?_))
      | exact ih0 _ _ _ _ _
      | exact LeO.none _
      | refine LeO.ite ?_ ?_
      | refine LeO.bind ?_ (fun _ => ?_)
theorem impl_areWords.mono : ∀ a0 a1 k, LeO (impl_areWords.f k a0 a1) (impl_areWords.f (k + 1) a0 a1) := by
  intro a0 a1 k
  have ih0 := impl_areWords.mono_l k
  unfold impl_areWords.f
  repeat' first
      | (with_reducible exact ih0 _ _ _ _ _)
      | (with_reducible exact LeO.refl _)
      | (with_reducible exact LeO.none _)
      | (with_reducible refine LeO.ite ?_ ?_)
      | (with_reducible refine LeO.bind ?_ (fun _ => ?_))
      | exact ih0 _ _ _ _ _
      | exact LeO.none _
      | refine LeO.ite ?_ ?_
      | refine LeO.bind ?_ (fun _ => ?_)
set_option maxHeartbeats 8000000 in
set_option maxRecDepth 100000 in
theorem impl_areWords.calls (k : Nat) (A0 : Option Addr) (c0 : Nat) (l0 : List Int) (a1 : Int) (r : Bool) (w : World) (hr0 : Kd.C (Kd.int .i64) w A0 l0.length l0) (hc0 : l0.length ≤ c0) (h : impl_areWords.f k l0 a1 = some r) :
    Calls Tryz.prog 76 #[.slice A0 l0.length c0, .int .i64 a1] w fun e w' => e = .returned (.bool r) ∧ Below w.heap.size w w' := by
  have HR0 := Aside0.mk hr0
  have HC0 := Aside0.mk hc0
  clear hr0 hc0
  have HB := Aside0.mk (Below.refl w.heap.size w)
  have H : (impl_areWords.l0 k l0 a1 l0 (l0.length : Int) 0) = some r := h
  clear h
  have H' := Aside0.mk H
  clear H
  go_enter Tryz.func76, Tryz.ntmps76
  go_wp2
  go_loopg [9] k (fun kq v9 w' => ∃ (x9_1 : Int), v9 = .int .i64 x9_1 ∧ Aside0 (impl_areWords.l0 kq l0 a1 l0 (l0.length : Int) x9_1 = some r) ∧ Aside0 (kq ≤ k) ∧ Aside0 (Below w.heap.size w w'))
  case atStart => exact ⟨(0), (by first | rfl | (simp; done) | (simp [*]; done)), H', ⟨Nat.le_refl _⟩, ⟨by repeat (first | (with_reducible first | exact HB.out | apply below_alloc | apply pw_below_drewN | apply below_drew1) | exact HB.out)⟩⟩
  case round =>
    clear H'
    try clear p2
    obtain ⟨x9_1, rfl, HA, HK1, HB⟩ := hrel
    cases gk with
    | zero => exact absurd HA.out (by simp [impl_areWords.l0])
    | succ k1 =>
      have H := HA.out
      clear HA
      simp only [impl_areWords.l0] at H
      by_cases c3 : x9_1 < (l0.length : Int)
      · rw [if_pos c3] at H
        have c3b0 : decide (x9_1 < (l0.length : Int)) = true := decide_eq_true c3
        clear c3
        by_cases c4 : 0 ≤ x9_1
        · rw [if_pos c4] at H
          have c4b0 : decide (0 ≤ x9_1) = true := decide_eq_true c4
          clear c4
          by_cases c5 : x9_1 < (l0.length : Int)
          · rw [if_pos c5] at H
            have c5b0 : decide (x9_1 < (l0.length : Int)) = true := decide_eq_true c5
            clear c5
            replace H := Option.bind_eq_some_iff.mp H
            obtain ⟨t224, A60, H⟩ := H
            replace H : (if t224 = true then (if x9_1 > 0 then (if 0 ≤ (wrap64 (x9_1 - 1)) then (if (wrap64 (x9_1 - 1)) < (l0.length : Int) then ((impl_atom.f (rd l0 (wrap64 (x9_1 - 1)))).bind fun t226 => ((impl_atom.f (rd l0 x9_1)).bind fun t227 => (if t226 ≥ t227 then (some false) else (impl_areWords.l0 k1 l0 a1 l0 (l0.length : Int) (wrap64 (x9_1 + 1)))))) else (none)) else (none)) else (impl_areWords.l0 k1 l0 a1 l0 (l0.length : Int) (wrap64 (x9_1 + 1)))) else (some false)) = some r := H
            have A6 := Aside0.mk A60
            clear A60
            by_cases c7 : t224 = true
            · subst c7
              have H1 : (if x9_1 > 0 then (if 0 ≤ (wrap64 (x9_1 - 1)) then (if (wrap64 (x9_1 - 1)) < (l0.length : Int) then ((impl_atom.f (rd l0 (wrap64 (x9_1 - 1)))).bind fun t226 => ((impl_atom.f (rd l0 x9_1)).bind fun t227 => (if t226 ≥ t227 then (some false) else (impl_areWords.l0 k1 l0 a1 l0 (l0.length : Int) (wrap64 (x9_1 + 1)))))) else (none)) else (none)) else (impl_areWords.l0 k1 l0 a1 l0 (l0.length : Int) (wrap64 (x9_1 + 1)))) = some r := by rw [if_pos rfl] at H; exact H
              clear H
              have H := H1
              clear H1
              by_cases c8 : x9_1 > 0
              · rw [if_pos c8] at H
                have c8b0 : decide (0 < x9_1) = true := decide_eq_true c8
                clear c8
                obtain ⟨ji9, hji9⟩ : ∃ j_ : Int, (wrap64 (x9_1 - 1)) = j_ := ⟨_, rfl⟩
                replace H : (if 0 ≤ (ji9) then (if (ji9) < (l0.length : Int) then ((impl_atom.f (rd l0 (ji9))).bind fun t226 => ((impl_atom.f (rd l0 x9_1)).bind fun t227 => (if t226 ≥ t227 then (some false) else (impl_areWords.l0 k1 l0 a1 l0 (l0.length : Int) (wrap64 (x9_1 + 1)))))) else (none)) else (none)) = some r := by first | (rw [hji9] at H; exact H) | (simp only [hji9] at H ⊢; exact H)
                (try rw [hji9] at A6)
                have hji9w : (IntKind.i64.wrap (x9_1 - 1)) = ji9 := (i64_w _).trans hji9
                by_cases c10 : 0 ≤ (ji9)
                · rw [if_pos c10] at H
                  have c10b0 : decide (0 ≤ (ji9)) = true := decide_eq_true c10
                  clear c10
                  by_cases c11 : (ji9) < (l0.length : Int)
                  · rw [if_pos c11] at H
                    have c11b0 : decide ((ji9) < (l0.length : Int)) = true := decide_eq_true c11
                    clear c11
                    replace H := Option.bind_eq_some_iff.mp H
                    obtain ⟨t226, A120, H⟩ := H
                    replace H : ((impl_atom.f (rd l0 x9_1)).bind fun t227 => (if t226 ≥ t227 then (some false) else (impl_areWords.l0 k1 l0 a1 l0 (l0.length : Int) (wrap64 (x9_1 + 1))))) = some r := H
                    have A12 := Aside0.mk A120
                    clear A120
                    replace H := Option.bind_eq_some_iff.mp H
                    obtain ⟨t227, A130, H⟩ := H
                    replace H : (if t226 ≥ t227 then (some false) else (impl_areWords.l0 k1 l0 a1 l0 (l0.length : Int) (wrap64 (x9_1 + 1)))) = some r := H
                    have A13 := Aside0.mk A130
                    clear A130
                    by_cases c14 : t226 ≥ t227
                    · rw [if_pos c14] at H
                      have c14b0 : decide (t227 ≤ t226) = true := decide_eq_true c14
                      clear c14
                      obtain rfl := Option.some.inj H
                      have p223 : 0 ≤ (x9_1 : Int) := of_decide_eq_true (by first | (with_reducible assumption) | assumption)
                      have q223 : x9_1 < (l0.length : Int) := of_decide_eq_true (by first | (with_reducible assumption) | assumption)
                      obtain ⟨ad223, e223, hx223_0⟩ := Kd.at_int HR0.out x9_1 p223 q223
                      cases e223
                      replace hx223_0 := (HB.out.cell (World.block_lt_of_cell? w _ hx223_0)).trans hx223_0
                      replace p223 := eq_true p223
                      replace q223 := eq_true q223
                      go_wp2_with (first | ((with_reducible refine gate_callee (f := 35) rfl ?_); refine goesL_ (some 15) rfl rfl Tryz.func35 (by kernel_rfl) rfl #[.int .i64 (rd l0 x9_1)] rfl (by (try simp only [List.map_toArray, List.map_cons, List.map_nil]); first | done | rfl | (simp only [List.length_drop, List.length_take]; rfl)) ?_; (with_reducible refine (impl_isWord.calls (rd l0 x9_1) true _ A6.out).mono ?_); rintro e w' ⟨rfl, ⟨nd, rfl⟩⟩; refine ⟨_, rfl, ?_⟩; have p225 : 0 ≤ ((ji9) : Int) := of_decide_eq_true (by first | (with_reducible assumption) | assumption); have q225 : (ji9) < (l0.length : Int) := of_decide_eq_true (by first | (with_reducible assumption) | assumption); obtain ⟨ad225, e225, hx225_0⟩ := Kd.at_int HR0.out (ji9) p225 q225; obtain rfl : ad223 = ad225 := (by injection e225); replace hx225_0 := (HB.out.cell (World.block_lt_of_cell? w _ hx225_0)).trans hx225_0; replace p225 := eq_true p225; replace q225 := eq_true q225) | (go_at_call 64; (with_reducible refine (impl_atom.calls (rd l0 (ji9)) t226 _ A12.out).mono ?_); rintro e w15 ⟨rfl, hb⟩; have n0_ := Aside0.mk (below_step (by repeat (first | (with_reducible first | exact HB.out | apply below_alloc | apply pw_below_drewN | apply below_drew1) | exact HB.out)) hb); clear HB; have HB := n0_; clear n0_; (try clear hb); (try clear hb2); (try clear hk); (try clear hi)) | (go_at_call 64; (with_reducible refine (impl_atom.calls (rd l0 x9_1) t227 _ A13.out).mono ?_); rintro e w16 ⟨rfl, hb⟩; have n0_ := Aside0.mk (below_step (by repeat (first | (with_reducible first | exact HB.out | apply below_alloc | apply pw_below_drewN | apply below_drew1) | exact HB.out)) hb); clear HB; have HB := n0_; clear n0_; (try clear hb); (try clear hb2); (try clear hk); (try clear hi)))
                      go_ret
                      exact ⟨by first | rfl | (simp [errW_none, errW_some] <;> rfl) | (simp only [← hji9]; first | rfl | (simp [errW_none, errW_some] <;> rfl)) | (simp [*, errW_none, errW_some] <;> rfl), by repeat (first | (with_reducible first | exact HB.out | apply below_alloc | apply pw_below_drewN | apply below_drew1) | exact HB.out)⟩
                    · rw [if_neg c14] at H
                      have c14b0 : decide (t227 ≤ t226) = false := decide_eq_false c14
                      clear c14
                      have H' := Aside0.mk H
                      clear H
                      have p223 : 0 ≤ (x9_1 : Int) := of_decide_eq_true (by first | (with_reducible assumption) | assumption)
                      have q223 : x9_1 < (l0.length : Int) := of_decide_eq_true (by first | (with_reducible assumption) | assumption)
                      obtain ⟨ad223, e223, hx223_0⟩ := Kd.at_int HR0.out x9_1 p223 q223
                      cases e223
                      replace hx223_0 := (HB.out.cell (World.block_lt_of_cell? w _ hx223_0)).trans hx223_0
                      replace p223 := eq_true p223
                      replace q223 := eq_true q223
                      go_wp2_with (first | ((with_reducible refine gate_callee (f := 35) rfl ?_); refine goesL_ (some 15) rfl rfl Tryz.func35 (by kernel_rfl) rfl #[.int .i64 (rd l0 x9_1)] rfl (by (try simp only [List.map_toArray, List.map_cons, List.map_nil]); first | done | rfl | (simp only [List.length_drop, List.length_take]; rfl)) ?_; (with_reducible refine (impl_isWord.calls (rd l0 x9_1) true _ A6.out).mono ?_); rintro e w' ⟨rfl, ⟨nd, rfl⟩⟩; refine ⟨_, rfl, ?_⟩; have p225 : 0 ≤ ((ji9) : Int) := of_decide_eq_true (by first | (with_reducible assumption) | assumption); have q225 : (ji9) < (l0.length : Int) := of_decide_eq_true (by first | (with_reducible assumption) | assumption); obtain ⟨ad225, e225, hx225_0⟩ := Kd.at_int HR0.out (ji9) p225 q225; obtain rfl : ad223 = ad225 := (by injection e225); replace hx225_0 := (HB.out.cell (World.block_lt_of_cell? w _ hx225_0)).trans hx225_0; replace p225 := eq_true p225; replace q225 := eq_true q225) | (go_at_call 64; (with_reducible refine (impl_atom.calls (rd l0 (ji9)) t226 _ A12.out).mono ?_); rintro e w17 ⟨rfl, hb⟩; have n0_ := Aside0.mk (below_step (by repeat (first | (with_reducible first | exact HB.out | apply below_alloc | apply pw_below_drewN | apply below_drew1) | exact HB.out)) hb); clear HB; have HB := n0_; clear n0_; (try clear hb); (try clear hb2); (try clear hk); (try clear hi)) | (go_at_call 64; (with_reducible refine (impl_atom.calls (rd l0 x9_1) t227 _ A13.out).mono ?_); rintro e w18 ⟨rfl, hb⟩; have n0_ := Aside0.mk (below_step (by repeat (first | (with_reducible first | exact HB.out | apply below_alloc | apply pw_below_drewN | apply below_drew1) | exact HB.out)) hb); clear HB; have HB := n0_; clear n0_; (try clear hb); (try clear hb2); (try clear hk); (try clear hi)))
                      go_roundg k1
                      case measure => have := HK1.out; omega
                      case rel => exact ⟨(wrap64 (x9_1 + 1)), (by first | rfl | (simp; done) | (simp [*]; done)), H', ⟨by have := HK1.out; omega⟩, ⟨by repeat (first | (with_reducible first | exact HB.out | apply below_alloc | apply pw_below_drewN | apply below_drew1) | exact HB.out)⟩⟩
                  · rw [if_neg c11] at H
                    exact absurd H (by simp)
                · rw [if_neg c10] at H
                  exact absurd H (by simp)
              · rw [if_neg c8] at H
                have c8b0 : decide (0 < x9_1) = false := decide_eq_false c8
                clear c8
                have H' := Aside0.mk H
                clear H
                have p223 : 0 ≤ (x9_1 : Int) := of_decide_eq_true (by first | (with_reducible assumption) | assumption)
                have q223 : x9_1 < (l0.length : Int) := of_decide_eq_true (by first | (with_reducible assumption) | assumption)
                obtain ⟨ad223, e223, hx223_0⟩ := Kd.at_int HR0.out x9_1 p223 q223
                cases e223
                replace hx223_0 := (HB.out.cell (World.block_lt_of_cell? w _ hx223_0)).trans hx223_0
                replace p223 := eq_true p223
                replace q223 := eq_true q223
                go_wp2_with (first | ((with_reducible refine gate_callee (f := 35) rfl ?_); refine goesL_ (some 15) rfl rfl Tryz.func35 (by kernel_rfl) rfl #[.int .i64 (rd l0 x9_1)] rfl (by (try simp only [List.map_toArray, List.map_cons, List.map_nil]); first | done | rfl | (simp only [List.length_drop, List.length_take]; rfl)) ?_; (with_reducible refine (impl_isWord.calls (rd l0 x9_1) true _ A6.out).mono ?_); rintro e w' ⟨rfl, ⟨nd, rfl⟩⟩; refine ⟨_, rfl, ?_⟩))
                go_roundg k1
                case measure => have := HK1.out; omega
                case rel => exact ⟨(wrap64 (x9_1 + 1)), (by first | rfl | (simp; done) | (simp [*]; done)), H', ⟨by have := HK1.out; omega⟩, ⟨by repeat (first | (with_reducible first | exact HB.out | apply below_alloc | apply pw_below_drewN | apply below_drew1) | exact HB.out)⟩⟩
            · replace c7 := Bool.eq_false_iff.mpr c7
              subst c7
              have H1 : (some false) = some r := by rw [if_neg (show ¬ (false = true) by decide)] at H; exact H
              clear H
              have H := H1
              clear H1
              obtain rfl := Option.some.inj H
              have p223 : 0 ≤ (x9_1 : Int) := of_decide_eq_true (by first | (with_reducible assumption) | assumption)
              have q223 : x9_1 < (l0.length : Int) := of_decide_eq_true (by first | (with_reducible assumption) | assumption)
              obtain ⟨ad223, e223, hx223_0⟩ := Kd.at_int HR0.out x9_1 p223 q223
              cases e223
              replace hx223_0 := (HB.out.cell (World.block_lt_of_cell? w _ hx223_0)).trans hx223_0
              replace p223 := eq_true p223
              replace q223 := eq_true q223
              go_wp2_with (first | ((with_reducible refine gate_callee (f := 35) rfl ?_); refine goesL_ (some 15) rfl rfl Tryz.func35 (by kernel_rfl) rfl #[.int .i64 (rd l0 x9_1)] rfl (by (try simp only [List.map_toArray, List.map_cons, List.map_nil]); first | done | rfl | (simp only [List.length_drop, List.length_take]; rfl)) ?_; (with_reducible refine (impl_isWord.calls (rd l0 x9_1) false _ A6.out).mono ?_); rintro e w' ⟨rfl, ⟨nd, rfl⟩⟩; refine ⟨_, rfl, ?_⟩))
              go_ret
              exact ⟨by first | rfl | (simp [errW_none, errW_some] <;> rfl) | (simp [*, errW_none, errW_some] <;> rfl), by repeat (first | (with_reducible first | exact HB.out | apply below_alloc | apply pw_below_drewN | apply below_drew1) | exact HB.out)⟩
          · rw [if_neg c5] at H
            exact absurd H (by simp)
        · rw [if_neg c4] at H
          exact absurd H (by simp)
      · rw [if_neg c3] at H
        have c3b0 : decide (x9_1 < (l0.length : Int)) = false := decide_eq_false c3
        clear c3
        obtain rfl := Option.some.inj H
        go_wp2
        go_ret
        exact ⟨by first | rfl | (simp [errW_none, errW_some] <;> rfl) | (simp [*, errW_none, errW_some] <;> rfl), by repeat (first | (with_reducible first | exact HB.out | apply below_alloc | apply pw_below_drewN | apply below_drew1) | exact HB.out)⟩
/-! ### impl_Rule_isActive: function 59 -/
def impl_Rule_isActive.f (a0_0 : Int) (l0_1 : List Int) (a0_2 : Int) (a0_3 : Int) (a0_4 : Int) (a1 : Int) : Option (Bool) := if a0_2 ≤ a1 then (some (decide (a1 ≤ a0_3))) else (some false)
set_option maxHeartbeats 8000000 in
set_option maxRecDepth 100000 in
theorem impl_Rule_isActive.calls (a0_0 : Int) (A0_1 : Option Addr) (c0_1 : Nat) (l0_1 : List Int) (a0_2 : Int) (a0_3 : Int) (a0_4 : Int) (a1 : Int) (r : Bool) (w : World) (hr0_1 : Kd.C (Kd.int .i64) w A0_1 l0_1.length l0_1) (hc0_1 : l0_1.length ≤ c0_1) (h : impl_Rule_isActive.f a0_0 l0_1 a0_2 a0_3 a0_4 a1 = some r) :
    Calls Tryz.prog 59 #[.agg #[.int .i64 a0_0, .slice A0_1 l0_1.length c0_1, .int .i64 a0_2, .int .i64 a0_3, .int .i64 a0_4], .int .i64 a1] w fun e w' => e = .returned (.bool r) ∧ Below w.heap.size w w' := by
  have hu41 := Tryz.underlying41
  have HR0_1 := Aside0.mk hr0_1
  have HC0_1 := Aside0.mk hc0_1
  clear hr0_1 hc0_1
  have HB := Aside0.mk (Below.refl w.heap.size w)
  have H : (if a0_2 ≤ a1 then (some (decide (a1 ≤ a0_3))) else (some false)) = some r := h
  clear h
  by_cases c3 : a0_2 ≤ a1
  · rw [if_pos c3] at H
    have c3b0 : decide (a0_2 ≤ a1) = true := decide_eq_true c3
    clear c3
    obtain rfl := Option.some.inj H
    go_enter Tryz.func59, Tryz.ntmps59
    go_wp2_with (first | ((with_reducible refine gate_dst (N := 2) rfl ?_); refine box_event ?hg (N := 2) ?hd (cs := #[.int .i64 a0_0, .slice A0_1 l0_1.length c0_1, .int .i64 a0_2, .int .i64 a0_3, .int .i64 a0_4]) (t := 41) ?hr ?_; (case hd => rfl); (case hg => rfl); (case hr => first | (go_simp; done) | (go_simp; rfl)); intro gb228 hg w4 hbox hb; have n0_ := Aside0.mk (below_step (by repeat (first | (with_reducible first | exact HB.out | apply below_alloc | apply pw_below_drewN | apply below_drew1) | exact HB.out)) hb); have n1_ := Aside0.mk (hbox); have n2_ := Aside0.mk ((by rw [hg]; exact (below_size (by repeat (first | (with_reducible first | exact HB.out | apply below_alloc | apply pw_below_drewN | apply below_drew1) | exact HB.out))) : w.heap.size ≤ gb228)); have n3_ := Aside0.mk ((by rw [hg]; exact (below_size (by repeat (first | (with_reducible first | exact HB.out | apply below_alloc | apply pw_below_drewN | apply below_drew1) | exact HB.out))) : w.heap.size ≤ gb228)); clear HB; have HB := n0_; have BK228 := n1_; have GW228 := n2_; have GE228 := n3_; clear n0_ n1_ n2_ n3_; clear hb hbox hg; have hcz5_0 : w4.cell? ⟨gb228, 0, none⟩ = some (.int .i64 a0_0) := (blk_cell BK228.out 0).trans rfl; have hcz5_1 : w4.cell? ⟨gb228, 1, none⟩ = some (.slice A0_1 l0_1.length c0_1) := (blk_cell BK228.out 1).trans rfl; have hcz5_2 : w4.cell? ⟨gb228, 2, none⟩ = some (.int .i64 a0_2) := (blk_cell BK228.out 2).trans rfl; have hcz5_3 : w4.cell? ⟨gb228, 3, none⟩ = some (.int .i64 a0_3) := (blk_cell BK228.out 3).trans rfl; have hcz5_4 : w4.cell? ⟨gb228, 4, none⟩ = some (.int .i64 a0_4) := (blk_cell BK228.out 4).trans rfl; have hfz5_0 := blk_frozen BK228.out 0; have hfz5_1 := blk_frozen BK228.out 1; have hfz5_2 := blk_frozen BK228.out 2; have hfz5_3 := blk_frozen BK228.out 3; have hfz5_4 := blk_frozen BK228.out 4))
    go_ret
    exact ⟨by first | rfl | (simp [errW_none, errW_some] <;> rfl) | (simp [*, errW_none, errW_some] <;> rfl), by repeat (first | (with_reducible first | exact HB.out | apply below_alloc | apply pw_below_drewN | apply below_drew1 | refine below_set ?_ GE228.out) | exact HB.out)⟩
  · rw [if_neg c3] at H
    have c3b0 : decide (a0_2 ≤ a1) = false := decide_eq_false c3
    clear c3
    obtain rfl := Option.some.inj H
    go_enter Tryz.func59, Tryz.ntmps59
    go_wp2_with (first | ((with_reducible refine gate_dst (N := 2) rfl ?_); refine box_event ?hg (N := 2) ?hd (cs := #[.int .i64 a0_0, .slice A0_1 l0_1.length c0_1, .int .i64 a0_2, .int .i64 a0_3, .int .i64 a0_4]) (t := 41) ?hr ?_; (case hd => rfl); (case hg => rfl); (case hr => first | (go_simp; done) | (go_simp; rfl)); intro gb228 hg w6 hbox hb; have n0_ := Aside0.mk (below_step (by repeat (first | (with_reducible first | exact HB.out | apply below_alloc | apply pw_below_drewN | apply below_drew1) | exact HB.out)) hb); have n1_ := Aside0.mk (hbox); have n2_ := Aside0.mk ((by rw [hg]; exact (below_size (by repeat (first | (with_reducible first | exact HB.out | apply below_alloc | apply pw_below_drewN | apply below_drew1) | exact HB.out))) : w.heap.size ≤ gb228)); have n3_ := Aside0.mk ((by rw [hg]; exact (below_size (by repeat (first | (with_reducible first | exact HB.out | apply below_alloc | apply pw_below_drewN | apply below_drew1) | exact HB.out))) : w.heap.size ≤ gb228)); clear HB; have HB := n0_; have BK228 := n1_; have GW228 := n2_; have GE228 := n3_; clear n0_ n1_ n2_ n3_; clear hb hbox hg; have hcz7_0 : w6.cell? ⟨gb228, 0, none⟩ = some (.int .i64 a0_0) := (blk_cell BK228.out 0).trans rfl; have hcz7_1 : w6.cell? ⟨gb228, 1, none⟩ = some (.slice A0_1 l0_1.length c0_1) := (blk_cell BK228.out 1).trans rfl; have hcz7_2 : w6.cell? ⟨gb228, 2, none⟩ = some (.int .i64 a0_2) := (blk_cell BK228.out 2).trans rfl; have hcz7_3 : w6.cell? ⟨gb228, 3, none⟩ = some (.int .i64 a0_3) := (blk_cell BK228.out 3).trans rfl; have hcz7_4 : w6.cell? ⟨gb228, 4, none⟩ = some (.int .i64 a0_4) := (blk_cell BK228.out 4).trans rfl; have hfz7_0 := blk_frozen BK228.out 0; have hfz7_1 := blk_frozen BK228.out 1; have hfz7_2 := blk_frozen BK228.out 2; have hfz7_3 := blk_frozen BK228.out 3; have hfz7_4 := blk_frozen BK228.out 4))
    go_ret
    exact ⟨by first | rfl | (simp [errW_none, errW_some] <;> rfl) | (simp [*, errW_none, errW_some] <;> rfl), by repeat (first | (with_reducible first | exact HB.out | apply below_alloc | apply pw_below_drewN | apply below_drew1 | refine below_set ?_ GE228.out) | exact HB.out)⟩
/-! ### impl_words: function 77 -/
def impl_words.l0 : Nat → List Int → Int → Option (List Int)
  | 0, _, _ => none
  | k + 1, x1, x2 => if x2 ≤ 16 then ((some (([x2, wrap64 (-x2)] : List Int) : List Int)).bind fun y232 => (if x1.length + y232.length < 17592186044416 then (impl_words.l0 k (x1 ++ y232) (wrap64 (x2 + 1))) else (none))) else (some x1)
def impl_words.f (k : Nat)  : Option (List Int) := impl_words.l0 k (([] : List Int)) 1
theorem impl_words.mono_l : ∀ k, (∀ y0 y1, LeO (impl_words.l0 k y0 y1) (impl_words.l0 (k + 1) y0 y1))
  | 0 => fun _ _ r h => by simp [impl_words.l0] at h
  | k + 1 => by
    have ih0 := impl_words.mono_l k
    · intro y0 y1
      unfold impl_words.l0
      repeat' first
      | (with_reducible exact ih0 _ _)
      | (with_reducible exact LeO.refl _)
      | (with_reducible exact LeO.none _)
      | (with_reducible refine LeO.ite ?_ ?_)
      | (with_reducible refine LeO.bind ?_ (fun _ => ?_))
      | exact ih0 _ _
      | exact LeO.none _
      | refine LeO.ite ?_ ?_
      | refine LeO.bind ?_ (fun _ => ?_)
theorem impl_words.mono : ∀ k, LeO (impl_words.f k ) (impl_words.f (k + 1) ) := by
  intro  k
  have ih0 := impl_words.mono_l k
  unfold impl_words.f
  repeat' first
      | (with_reducible exact ih0 _ _)
      | (with_reducible exact LeO.refl _)
      | (with_reducible exact LeO.none _)
      | (with_reducible refine LeO.ite ?_ ?_)
      | (with_reducible refine LeO.bind ?_ (fun _ => ?_))
      | exact ih0 _ _
      | exact LeO.none _
      | refine LeO.ite ?_ ?_
      | refine LeO.bind ?_ (fun _ => ?_)
set_option maxHeartbeats 8000000 in
set_option maxRecDepth 100000 in
theorem impl_words.calls (k : Nat)  (r : List Int) (w : World) (h : impl_words.f k  = some r) :
    Calls Tryz.prog 77 #[] w fun e w' => ∃ v0_ : Value, e = .returned (v0_) ∧ Kd.R (Kd.int .i64) 2 w' w.heap.size (fun _ => True) v0_ r ∧ Below w.heap.size w w' := by
  have HB := Aside0.mk (Below.refl w.heap.size w)
  have H : (impl_words.l0 k (([] : List Int)) 1) = some r := h
  clear h
  obtain ⟨y229, hy229⟩ : ∃ y_ : List Int, y_ = (([] : List Int)) := ⟨_, rfl⟩
  replace H : (impl_words.l0 k y229 1) = some r := by first | (rw [hy229]; with_reducible exact H) | (have H2_ := (Option.bind_some _ _).symm.trans H; rw [hy229]; with_reducible exact H2_) | (have H2_ := (Option.bind_some _ _).symm.trans H; with_reducible exact H2_) | with_reducible exact H | (rw [hy229]; exact H) | exact H
  have Ny229 := Aside0.mk hy229
  clear hy229
  have H' := Aside0.mk H
  clear H
  go_enter Tryz.func77, Tryz.ntmps77
  go_wp2_with (first | ((with_reducible refine gate_dst (N := 3) rfl ?_); refine Kd.R_lit (Kd.int .i64) _ 2 ?hg (N := 3) ?hd (xs := ([] : List Int)) (inner := []) (ok := fun _ => True) (okp := fun _ => True) ?hr ?hp (fun _ hk => hk) trivial (Below.refl _ _) (Nat.le_refl _) (by simp) ?_; (case hd => rfl); (case hg => rfl); (case hr => first | (go_simp; done) | (go_simp; rfl)); (case hp => exact (Reps.none _ _)); intro v230 w1 ho2 hb hg_ hnew_; clear hg_ hnew_; (first | rw [← Ny229.out] at ho2 | (simp only [Int.reduceToNat] at ho2; rw [← Ny229.out] at ho2)); have n0_ := Aside0.mk (Kd.R_lower ho2 (below_size (by repeat (first | (with_reducible first | exact HB.out | apply below_alloc | apply pw_below_drewN | apply below_drew1) | exact HB.out)))); have n1_ := Aside0.mk (below_step (by repeat (first | (with_reducible first | exact HB.out | apply below_alloc | apply pw_below_drewN | apply below_drew1) | exact HB.out)) hb); clear HB; have HO231 := n0_; have HB := n1_; clear n0_ n1_; clear hb ho2))
  go_loopg [1, 2] k (fun kq v1 v2 w' => ∃ (x1_1 : List Int) (x2_1 : Int), v2 = .int .i64 x2_1 ∧ Aside0 (impl_words.l0 kq x1_1 x2_1 = some r) ∧ Aside0 (kq ≤ k) ∧ Aside0 (Kd.R (Kd.int .i64) 2 w' w.heap.size (fun _ => True) v1 x1_1) ∧ Aside0 (Below w.heap.size w w'))
  case atStart => exact ⟨(y229), (1), (by first | rfl | (simp; done) | (simp [*]; done)), H', ⟨Nat.le_refl _⟩, ⟨by (with_reducible repeat (first | apply Kd.R_alloc | apply Kd.R_drewN | apply Kd.R_drew)); exact HO231.out⟩, ⟨by repeat (first | (with_reducible first | exact HB.out | apply below_alloc | apply pw_below_drewN | apply below_drew1) | exact HB.out)⟩⟩
  case round =>
    clear H'
    try clear p2
    obtain ⟨x1_1, x2_1, rfl, HA, HK1, HO_1, HB⟩ := hrel
    cases gk with
    | zero => exact absurd HA.out (by simp [impl_words.l0])
    | succ k1 =>
      have H := HA.out
      clear HA
      simp only [impl_words.l0] at H
      by_cases c3 : x2_1 ≤ 16
      · rw [if_pos c3] at H
        have c3b0 : decide (x2_1 ≤ 16) = true := decide_eq_true c3
        clear c3
        obtain ⟨y232, hy232⟩ : ∃ y_ : List Int, y_ = (([x2_1, wrap64 (-x2_1)] : List Int)) := ⟨_, rfl⟩
        replace H : (if x1_1.length + y232.length < 17592186044416 then (impl_words.l0 k1 (x1_1 ++ y232) (wrap64 (x2_1 + 1))) else (none)) = some r := by first | (rw [hy232]; with_reducible exact H) | (have H2_ := (Option.bind_some _ _).symm.trans H; rw [hy232]; with_reducible exact H2_) | (have H2_ := (Option.bind_some _ _).symm.trans H; with_reducible exact H2_) | with_reducible exact H | (rw [hy232]; exact H) | exact H
        have Ny232 := Aside0.mk hy232
        clear hy232
        by_cases c4 : x1_1.length + y232.length < 17592186044416
        · rw [if_pos c4] at H
          have LMc4 := Aside0.mk c4
          clear c4
          obtain ⟨y235, hy235⟩ : ∃ y_ : List Int, y_ = (x1_1 ++ y232) := ⟨_, rfl⟩
          replace H : (impl_words.l0 k1 y235 (wrap64 (x2_1 + 1))) = some r := by first | (rw [hy235]; with_reducible exact H) | (have H2_ := (Option.bind_some _ _).symm.trans H; rw [hy235]; with_reducible exact H2_) | (have H2_ := (Option.bind_some _ _).symm.trans H; with_reducible exact H2_) | with_reducible exact H | (rw [hy235]; exact H) | exact H
          have Ny235 := Aside0.mk hy235
          clear hy235
          have H' := Aside0.mk H
          clear H
          go_wp2_with (first | ((with_reducible refine gate_dst (N := 12) rfl ?_); refine Kd.R_lit (Kd.int .i64) _ 2 ?hg (N := 12) ?hd (xs := ([x2_1, wrap64 (-x2_1)] : List Int)) (inner := [.int .i64 x2_1, .int .i64 (wrap64 (-x2_1))]) (ok := fun _ => True) (okp := fun _ => True) ?hr ?hp (fun _ hk => hk) trivial (Below.refl _ _) (Nat.le_refl _) (by simp) ?_; (case hd => rfl); (case hg => rfl); (case hr => first | (go_simp; done) | (go_simp; rfl)); (case hp => exact (Reps.one (show Kd.M (Kd.int .i64) _ _ _ x2_1 [.int .i64 x2_1] from rfl) (Reps.one (show Kd.M (Kd.int .i64) _ _ _ (wrap64 (-x2_1)) [.int .i64 (wrap64 (-x2_1))] from rfl) (Reps.none _ _)))); intro v233 w5 ho6 hb hg_ hnew_; clear hg_ hnew_; (first | rw [← Ny232.out] at ho6 | (simp only [Int.reduceToNat] at ho6; rw [← Ny232.out] at ho6)); have n0_ := Aside0.mk (Kd.R_elder' (by (with_reducible repeat (first | apply Kd.R_alloc | apply Kd.R_drewN | apply Kd.R_drew)); exact HO_1.out) (Kd.R_base ho6) hb); have n1_ := Aside0.mk (Kd.R_lower (Kd.R_new' ho6 (Kd.R_lt (by (with_reducible repeat (first | apply Kd.R_alloc | apply Kd.R_drewN | apply Kd.R_drew)); exact HO_1.out))) (below_size (by repeat (first | (with_reducible first | exact HB.out | apply below_alloc | apply pw_below_drewN | apply below_drew1) | exact HB.out)))); have n2_ := Aside0.mk (below_step (by repeat (first | (with_reducible first | exact HB.out | apply below_alloc | apply pw_below_drewN | apply below_drew1) | exact HB.out)) hb); clear HO_1; clear HB; have HO_1 := n0_; have HO234 := n1_; have HB := n2_; clear n0_ n1_ n2_; clear hb ho6; obtain ⟨Ao8, co8, eo8⟩ := Kd.R_slice HO234.out; subst eo8) | ((with_reducible refine gate_builtin (b := .append) (xs := #[.tmp 8, .tmp 12]) rfl ?_); at_builtin; refine Kd.R_append_rows (Kd.int .i64) (w0 := w) w.heap.size rfl (.tmp 8) (.tmp 12) 26 2 (.int .i64 0) 8 rfl Tryz.underlying26 info2 rfl (by decide) (by omega) u1 x1_1 y232 _ _ _ (fun k_ => some k_ ≠ (.slice Ao8 y232.length co8 : Value).ownBlock) (fun _ => False) rfl rfl ?aO ?aR (fun _ _ h => h) (fun _ h => h.elim) ?aF ?aB ?aS ?aL ?_; (case aR => repeat (first | exact (Kd.R_reads' HO234.out).2.2 | (with_reducible refine Kd.C_alloc ?_ _) | (with_reducible refine Kd.C_drewN ?_ _) | (with_reducible refine Kd.C_drew ?_))); (case aB => exact (by repeat (first | (with_reducible first | exact HB.out | apply below_alloc | apply pw_below_drewN | apply below_drew1) | exact HB.out))); (case aF => exact (fun k_ hk => Kd.fresh' (Kd.R_lt (by (with_reducible repeat (first | apply Kd.R_alloc | apply Kd.R_drewN | apply Kd.R_drew)); exact HO234.out)) k_ hk)); (case aO => exact (by (with_reducible repeat (first | apply Kd.R_alloc | apply Kd.R_drewN | apply Kd.R_drew)); exact Kd.R_mono HO_1.out (fun _ hk => hk.2))); (case aS => exact (below_size (by repeat (first | (with_reducible first | exact HB.out | apply below_alloc | apply pw_below_drewN | apply below_drew1) | exact HB.out)))); (case aL => have := LMc4.out; omega); intro v236 w7 ho hb hg hat; rw [← Ny235.out] at ho; have n0_ := Aside0.mk (Kd.R_after (ok := (fun _ => True)) (by (with_reducible repeat (first | apply Kd.R_alloc | apply Kd.R_drewN | apply Kd.R_drew)); exact HO234.out) hg hat); have n1_ := Aside0.mk (hb); have n2_ := Aside0.mk (ho); clear HO234; clear HB; clear HO_1; have HO234 := n0_; have HB := n1_; have HO237 := n2_; clear n0_ n1_ n2_; clear ho hb hg hat))
          go_roundg k1
          case measure => have := HK1.out; omega
          case rel => exact ⟨(y235), (wrap64 (x2_1 + 1)), (by first | rfl | (simp; done) | (simp [*]; done)), H', ⟨by have := HK1.out; omega⟩, ⟨by (with_reducible repeat (first | apply Kd.R_alloc | apply Kd.R_drewN | apply Kd.R_drew)); exact Kd.R_mono HO237.out (fun _ hk => trivial)⟩, ⟨by repeat (first | (with_reducible first | exact HB.out | apply below_alloc | apply pw_below_drewN | apply below_drew1) | exact HB.out)⟩⟩
        · rw [if_neg c4] at H
          exact absurd H (by simp)
      · rw [if_neg c3] at H
        have c3b0 : decide (x2_1 ≤ 16) = false := decide_eq_false c3
        clear c3
        obtain rfl := Option.some.inj H
        go_wp2
        go_ret
        exact ⟨_, by first | rfl | (simp [errW_none, errW_some] <;> rfl) | (simp [*, errW_none, errW_some] <;> rfl), by (with_reducible repeat (first | apply Kd.R_alloc | apply Kd.R_drewN | apply Kd.R_drew)); exact HO_1.out, by repeat (first | (with_reducible first | exact HB.out | apply below_alloc | apply pw_below_drewN | apply below_drew1) | exact HB.out)⟩
/-! ### slices_Index_int64_int64: function 90 -/
def slices_Index_int64_int64.l0 : Nat → List Int → Int → Int → Int → Option (Int)
  | 0, _, _, _, _ => none
  | k + 1, x0, x1, x7, x8 => if x8 < x7 then (if 0 ≤ x8 then (if x8 < (x0.length : Int) then (if x1 = (rd x0 x8) then (some x8) else (slices_Index_int64_int64.l0 k x0 x1 x7 (wrap64 (x8 + 1)))) else (none)) else (none)) else (some (-1))
def slices_Index_int64_int64.f (k : Nat) (l0 : List Int) (a1 : Int) : Option (Int) := slices_Index_int64_int64.l0 k l0 a1 (l0.length : Int) 0
theorem slices_Index_int64_int64.mono_l : ∀ k, (∀ y0 y1 y2 y3, LeO (slices_Index_int64_int64.l0 k y0 y1 y2 y3) (slices_Index_int64_int64.l0 (k + 1) y0 y1 y2 y3))
  | 0 => fun _ _ _ _ r h => by simp [slices_Index_int64_int64.l0] at h
  | k + 1 => by
    have ih0 := slices_Index_int64_int64.mono_l k
    · intro y0 y1 y2 y3
      unfold slices_Index_int64_int64.l0
      repeat' first
      | (with_reducible exact ih0 _ _ _ _)
      | (with_reducible exact LeO.refl _)
      | (with_reducible exact LeO.none _)
      | (with_reducible refine LeO.ite ?_ ?_)
      | (with_reducible refine LeO.bind ?_ (fun _ => ?_))
      | exact ih0 _ _ _ _
      | exact LeO.none _
      | refine LeO.ite ?_ ?_
      | refine LeO.bind ?_ (fun _ => ?_)
theorem slices_Index_int64_int64.mono : ∀ a0 a1 k, LeO (slices_Index_int64_int64.f k a0 a1) (slices_Index_int64_int64.f (k + 1) a0 a1) := by
  intro a0 a1 k
  have ih0 := slices_Index_int64_int64.mono_l k
  unfold slices_Index_int64_int64.f
  repeat' first
      | (with_reducible exact ih0 _ _ _ _)
      | (with_reducible exact LeO.refl _)
      | (with_reducible exact LeO.none _)
      | (with_reducible refine LeO.ite ?_ ?_)
      | (with_reducible refine LeO.bind ?_ (fun _ => ?_))
      | exact ih0 _ _ _ _
      | exact LeO.none _
      | refine LeO.ite ?_ ?_
      | refine LeO.bind ?_ (fun _ => ?_)
set_option maxHeartbeats 8000000 in
set_option maxRecDepth 100000 in
theorem slices_Index_int64_int64.calls (k : Nat) (A0 : Option Addr) (c0 : Nat) (l0 : List Int) (a1 : Int) (r : Int) (w : World) (hr0 : Kd.C (Kd.int .i64) w A0 l0.length l0) (hc0 : l0.length ≤ c0) (h : slices_Index_int64_int64.f k l0 a1 = some r) :
    Calls Tryz.prog 90 #[.slice A0 l0.length c0, .int .i64 a1] w fun e w' => e = .returned (.int .i64 r) ∧ Drawn0 w w' := by
  have HR0 := Aside0.mk hr0
  have HC0 := Aside0.mk hc0
  clear hr0 hc0
  have H : (slices_Index_int64_int64.l0 k l0 a1 (l0.length : Int) 0) = some r := h
  clear h
  have H' := Aside0.mk H
  clear H
  go_enter Tryz.func90, Tryz.ntmps90
  go_wp2
  go_loopg [8] k (fun kq v8 w' => ∃ (x8_1 : Int), v8 = .int .i64 x8_1 ∧ Aside0 (slices_Index_int64_int64.l0 kq l0 a1 (l0.length : Int) x8_1 = some r) ∧ Aside0 (kq ≤ k) ∧ Drawn0 w w')
  case atStart => exact ⟨(0), (by first | rfl | (simp; done) | (simp [*]; done)), H', ⟨Nat.le_refl _⟩, by repeat (first | exact Drawn0.refl _ | apply Drawn0.step)⟩
  case round =>
    clear H'
    try clear p2
    obtain ⟨x8_1, rfl, HA, HK1, ⟨m1, rfl⟩⟩ := hrel
    cases gk with
    | zero => exact absurd HA.out (by simp [slices_Index_int64_int64.l0])
    | succ k1 =>
      have H := HA.out
      clear HA
      simp only [slices_Index_int64_int64.l0] at H
      by_cases c3 : x8_1 < (l0.length : Int)
      · rw [if_pos c3] at H
        have c3b0 : decide (x8_1 < (l0.length : Int)) = true := decide_eq_true c3
        clear c3
        by_cases c4 : 0 ≤ x8_1
        · rw [if_pos c4] at H
          have c4b0 : decide (0 ≤ x8_1) = true := decide_eq_true c4
          clear c4
          by_cases c5 : x8_1 < (l0.length : Int)
          · rw [if_pos c5] at H
            have c5b0 : decide (x8_1 < (l0.length : Int)) = true := decide_eq_true c5
            clear c5
            by_cases c6 : a1 = (rd l0 x8_1)
            · rw [if_pos c6] at H
              have c6b0 : (a1 == (rd l0 x8_1)) = true := beq_iff_eq.mpr c6
              have c6b1 : (a1 != (rd l0 x8_1)) = false := bne_eq_false_iff_eq.mpr c6
              clear c6
              obtain rfl := Option.some.inj H
              have p238 : 0 ≤ (x8_1 : Int) := of_decide_eq_true (by first | (with_reducible assumption) | assumption)
              have q238 : x8_1 < (l0.length : Int) := of_decide_eq_true (by first | (with_reducible assumption) | assumption)
              obtain ⟨ad238, e238, hx238_0⟩ := Kd.at_int HR0.out x8_1 p238 q238
              cases e238
              replace p238 := eq_true p238
              replace q238 := eq_true q238
              go_wp2
              go_ret
              exact ⟨by first | rfl | (simp; done) | (simp [*]; done), by repeat (first | exact Drawn0.refl _ | apply Drawn0.step)⟩
            · rw [if_neg c6] at H
              have c6b0 : (a1 == (rd l0 x8_1)) = false := beq_eq_false_iff_ne.mpr c6
              have c6b1 : (a1 != (rd l0 x8_1)) = true := bne_iff_ne.mpr c6
              have H' := Aside0.mk H
              clear H
              have p238 : 0 ≤ (x8_1 : Int) := of_decide_eq_true (by first | (with_reducible assumption) | assumption)
              have q238 : x8_1 < (l0.length : Int) := of_decide_eq_true (by first | (with_reducible assumption) | assumption)
              obtain ⟨ad238, e238, hx238_0⟩ := Kd.at_int HR0.out x8_1 p238 q238
              cases e238
              replace p238 := eq_true p238
              replace q238 := eq_true q238
              go_wp2
              go_roundg k1
              case measure => have := HK1.out; omega
              case rel => exact ⟨(wrap64 (x8_1 + 1)), (by first | rfl | (simp; done) | (simp [*]; done)), H', ⟨by have := HK1.out; omega⟩, by repeat (first | exact Drawn0.refl _ | apply Drawn0.step)⟩
          · rw [if_neg c5] at H
            exact absurd H (by simp)
        · rw [if_neg c4] at H
          exact absurd H (by simp)
      · rw [if_neg c3] at H
        have c3b0 : decide (x8_1 < (l0.length : Int)) = false := decide_eq_false c3
        clear c3
        obtain rfl := Option.some.inj H
        go_wp2
        go_ret
        exact ⟨by first | rfl | (simp; done) | (simp [*]; done), by repeat (first | exact Drawn0.refl _ | apply Drawn0.step)⟩
/-! ### slices_Contains_int64_int64: function 65 -/
def slices_Contains_int64_int64.f (k : Nat) (l0 : List Int) (a1 : Int) : Option (Bool) := (slices_Index_int64_int64.f k l0 a1).bind fun t239 => (some (decide (t239 ≥ 0)))
theorem slices_Contains_int64_int64.mono : ∀ a0 a1 k, LeO (slices_Contains_int64_int64.f k a0 a1) (slices_Contains_int64_int64.f (k + 1) a0 a1) := by
  intro a0 a1 k
  unfold slices_Contains_int64_int64.f
  repeat' first
      | (with_reducible exact slices_Index_int64_int64.mono _ _ _)
      | (with_reducible exact LeO.refl _)
      | (with_reducible exact LeO.none _)
      | (with_reducible refine LeO.ite ?_ ?_)
      | (with_reducible refine LeO.bind ?_ (fun _ => ?_))
      | exact slices_Index_int64_int64.mono _ _ _
      | exact LeO.none _
      | refine LeO.ite ?_ ?_
      | refine LeO.bind ?_ (fun _ => ?_)
set_option maxHeartbeats 8000000 in
set_option maxRecDepth 100000 in
theorem slices_Contains_int64_int64.calls (k : Nat) (A0 : Option Addr) (c0 : Nat) (l0 : List Int) (a1 : Int) (r : Bool) (w : World) (hr0 : Kd.C (Kd.int .i64) w A0 l0.length l0) (hc0 : l0.length ≤ c0) (h : slices_Contains_int64_int64.f k l0 a1 = some r) :
    Calls Tryz.prog 65 #[.slice A0 l0.length c0, .int .i64 a1] w fun e w' => e = .returned (.bool r) ∧ Drawn0 w w' := by
  have HR0 := Aside0.mk hr0
  have HC0 := Aside0.mk hc0
  clear hr0 hc0
  have H : ((slices_Index_int64_int64.f k l0 a1).bind fun t239 => (some (decide (t239 ≥ 0)))) = some r := h
  clear h
  replace H := Option.bind_eq_some_iff.mp H
  obtain ⟨t239, A30, H⟩ := H
  replace H : (some (decide (t239 ≥ 0))) = some r := H
  have A3 := Aside0.mk A30
  clear A30
  obtain rfl := Option.some.inj H
  go_enter Tryz.func65, Tryz.ntmps65
  go_wp2_with (first | ((with_reducible refine gate_callee (f := 90) rfl ?_); refine goesL_ (some 7) rfl rfl Tryz.func90 (by kernel_rfl) rfl #[.slice A0 l0.length c0, .int .i64 a1] rfl (by (try simp only [List.map_toArray, List.map_cons, List.map_nil]); first | done | rfl | (simp only [List.length_drop, List.length_take]; rfl)) ?_; (with_reducible refine (slices_Index_int64_int64.calls k _ _ l0 a1 t239 _ ?side1 ?side2 A3.out).mono ?_); (case side1 => repeat (first | exact HR0.out | (with_reducible refine Kd.C_alloc ?_ _) | (with_reducible refine Kd.C_drewN ?_ _) | (with_reducible refine Kd.C_drew ?_))); (case side2 => exact HC0.out); rintro e w' ⟨rfl, ⟨nd, rfl⟩⟩; refine ⟨_, rfl, ?_⟩))
  go_ret
  exact ⟨by first | rfl | (simp; done) | (simp [*]; done), by repeat (first | exact Drawn0.refl _ | apply Drawn0.step)⟩
-- NOT PRINTED: function 54 (impl_court_isFact)
-- NOT PRINTED: function 96 (impl_court_some)
-- NOT PRINTED: function 88 (slices_IndexFunc_int64_int64)
-- NOT PRINTED: function 60 (slices_ContainsFunc_int64_int64)
-- NOT PRINTED: function 97 (impl_court_holds)
-- NOT PRINTED: function 98 (impl_court_every)
-- NOT PRINTED: function 78 (impl_court_proves)
-- NOT PRINTED: function 100 (impl_court_fails)
-- NOT PRINTED: function 79 (impl_court_disproves)
-- NOT PRINTED: function 37 (impl_judged)
/-- A state of type 41 at block g of W; what its slices lead to came in by w0. -/
def IsS41 (w0 W : World) (g : Nat) (f0 : Int) (f1 : List Int) (f2 : Int) (f3 : Int) (f4 : Int) : Prop := ∃ A1 c1, W.heap[g]? = some (.cells #[.int .i64 f0, .slice A1 f1.length c1, .int .i64 f2, .int .i64 f3, .int .i64 f4] 41 (0, 0)) ∧ w0.heap.size ≤ g ∧ Kd.C (Kd.int .i64) w0 A1 f1.length f1
theorem IsS41.grown {w0 W : World} {g : Nat} {f0 : Int} {f1 : List Int} {f2 : Int} {f3 : Int} {f4 : Int} {W1 : World} {row : Option Nat} (h : IsS41 w0 W g f0 f1 f2 f3 f4) (hw : W.grownBy W1 row) (hne : some g ≠ row) : IsS41 w0 W1 g f0 f1 f2 f3 f4 := by
  obtain ⟨A1, c1, hb, hg, hr1⟩ := h
  exact ⟨A1, c1, blk_grown hb hw hne, hg, hr1⟩
theorem IsS41.below {w0 W : World} {g : Nat} {f0 : Int} {f1 : List Int} {f2 : Int} {f3 : Int} {f4 : Int} {W1 : World} (h : IsS41 w0 W g f0 f1 f2 f3 f4) (hw : Below W.heap.size W W1) : IsS41 w0 W1 g f0 f1 f2 f3 f4 := h.grown (grown_of_below hw none) (by simp)
theorem IsS41.alloc {w0 W : World} {g : Nat} {f0 : Int} {f1 : List Int} {f2 : Int} {f3 : Int} {f4 : Int} (h : IsS41 w0 W g f0 f1 f2 f3 f4) (o : Obj) : IsS41 w0 (W.alloc o) g f0 f1 f2 f3 f4 := h.below (below_alloc (Below.refl _ _) o)
theorem IsS41.drewN {w0 W : World} {g : Nat} {f0 : Int} {f1 : List Int} {f2 : Int} {f3 : Int} {f4 : Int} (h : IsS41 w0 W g f0 f1 f2 f3 f4) (m : Nat) : IsS41 w0 (W.drewN m) g f0 f1 f2 f3 f4 := h
theorem IsS41.drew {w0 W : World} {g : Nat} {f0 : Int} {f1 : List Int} {f2 : Int} {f3 : Int} {f4 : Int} (h : IsS41 w0 W g f0 f1 f2 f3 f4) : IsS41 w0 W.drew g f0 f1 f2 f3 f4 := h
theorem IsS41.at_ {w0 W : World} {g : Nat} {f0 : Int} {f1 : List Int} {f2 : Int} {f3 : Int} {f4 : Int} {w' : World} {m : Nat} (hq : W.drewN m = w') (h : IsS41 w0 W g f0 f1 f2 f3 f4) : IsS41 w0 w' g f0 f1 f2 f3 f4 := by subst hq; exact IsS41.drewN h m
theorem IsS41.apart {w0 W : World} {g : Nat} {f0 : Int} {f1 : List Int} {f2 : Int} {f3 : Int} {f4 : Int} {α : Type} {d : Kd α} {e : Nat} {base : Nat} {ok : Nat → Prop} {v : Value} {xs : List α} (h : IsS41 w0 W g f0 f1 f2 f3 f4) (ho : d.R e W base ok v xs) (ht : ∀ q, q ∈ e :: d.E → q ≠ 41) : d.R e W base (fun k => ok k ∧ k ≠ g) v xs := by
  obtain ⟨A1, c1, hb, hg, hr1⟩ := h
  exact Kd.R_types ho hb ht
theorem IsS41.own_ne {w0 W : World} {g : Nat} {f0 : Int} {f1 : List Int} {f2 : Int} {f3 : Int} {f4 : Int} {α : Type} {d : Kd α} {e : Nat} {base : Nat} {ok : Nat → Prop} {v : Value} {xs : List α} (h : IsS41 w0 W g f0 f1 f2 f3 f4) (ho : d.R e W base ok v xs) (ht : e ≠ 41) : some g ≠ v.ownBlock := by
  obtain ⟨A1, c1, hb, hg, hr1⟩ := h
  exact Kd.R_ne ho hb ht
theorem IsS41.apartS {w0 W : World} {g : Nat} {f0 : Int} {f1 : List Int} {f2 : Int} {f3 : Int} {f4 : Int} {α : Type} {d : Kd α} {e : Nat} {base : Nat} {ok : Nat → Prop} {v : Value} {xs : List α} (h : IsS41 w0 W g f0 f1 f2 f3 f4) (ho : d.S e W base ok v xs) (ht : ∀ q, q ∈ e :: d.E → q ≠ 41) : d.S e W base (fun k => ok k ∧ k ≠ g) v xs := by
  obtain ⟨A1, c1, hb, hg, hr1⟩ := h
  exact Kd.S_types ho hb ht
theorem IsS41.own_neS {w0 W : World} {g : Nat} {f0 : Int} {f1 : List Int} {f2 : Int} {f3 : Int} {f4 : Int} {α : Type} {d : Kd α} {e : Nat} {base : Nat} {ok : Nat → Prop} {v : Value} {xs : List α} (h : IsS41 w0 W g f0 f1 f2 f3 f4) (ho : d.S e W base ok v xs) (ht : e ≠ 41) : some g ≠ v.ownBlock := by
  obtain ⟨A1, c1, hb, hg, hr1⟩ := h
  exact Kd.S_ne ho hb ht
theorem IsS41.lt {w0 W : World} {g : Nat} {f0 : Int} {f1 : List Int} {f2 : Int} {f3 : Int} {f4 : Int} (h : IsS41 w0 W g f0 f1 f2 f3 f4) : g < W.heap.size := by
  obtain ⟨A1, c1, hb, hg, hr1⟩ := h
  exact blk_lt hb
theorem IsS41.ge {w0 W : World} {g : Nat} {f0 : Int} {f1 : List Int} {f2 : Int} {f3 : Int} {f4 : Int} (h : IsS41 w0 W g f0 f1 f2 f3 f4) : w0.heap.size ≤ g := by
  obtain ⟨A1, c1, hb, hg, hr1⟩ := h
  exact hg
theorem IsS41.far {w0 W : World} {g : Nat} {f0 : Int} {f1 : List Int} {f2 : Int} {f3 : Int} {f4 : Int} {p : Addr} (h : IsS41 w0 W g f0 f1 f2 f3 f4) (hne : g ≠ p.block) (u : Value) : IsS41 w0 (W.setCell p u) g f0 f1 f2 f3 f4 := by
  obtain ⟨A1, c1, hb, hg, hr1⟩ := h
  exact ⟨A1, c1, blk_far hb hne u, hg, hr1⟩
theorem cellS41_0 {W : World} {g : Nat} {A1 : Option Addr} {c1 : Nat} {f0 : Int} {f1 : List Int} {f2 : Int} {f3 : Int} {f4 : Int} (h : W.heap[g]? = some (.cells #[.int .i64 f0, .slice A1 f1.length c1, .int .i64 f2, .int .i64 f3, .int .i64 f4] 41 (0, 0))) : W.cell? ⟨g, 0, none⟩ = some (.int .i64 f0) := (blk_cell h 0).trans rfl
theorem IsS41.set_0 {w0 W : World} {g : Nat} {f0 : Int} {f1 : List Int} {f2 : Int} {f3 : Int} {f4 : Int} (h : IsS41 w0 W g f0 f1 f2 f3 f4) (x : Int) : IsS41 w0 (W.setCell ⟨g, 0, none⟩ (.int .i64 x)) g x f1 f2 f3 f4 := by
  obtain ⟨A1, c1, hb, hg, hr1⟩ := h
  exact ⟨A1, c1, by simpa using blk_set hb 0 (.int .i64 x), hg, hr1⟩
theorem cellS41_1 {W : World} {g : Nat} {A1 : Option Addr} {c1 : Nat} {f0 : Int} {f1 : List Int} {f2 : Int} {f3 : Int} {f4 : Int} (h : W.heap[g]? = some (.cells #[.int .i64 f0, .slice A1 f1.length c1, .int .i64 f2, .int .i64 f3, .int .i64 f4] 41 (0, 0))) : W.cell? ⟨g, 1, none⟩ = some (.slice A1 f1.length c1) := (blk_cell h 1).trans rfl
theorem cellS41_2 {W : World} {g : Nat} {A1 : Option Addr} {c1 : Nat} {f0 : Int} {f1 : List Int} {f2 : Int} {f3 : Int} {f4 : Int} (h : W.heap[g]? = some (.cells #[.int .i64 f0, .slice A1 f1.length c1, .int .i64 f2, .int .i64 f3, .int .i64 f4] 41 (0, 0))) : W.cell? ⟨g, 2, none⟩ = some (.int .i64 f2) := (blk_cell h 2).trans rfl
theorem IsS41.set_2 {w0 W : World} {g : Nat} {f0 : Int} {f1 : List Int} {f2 : Int} {f3 : Int} {f4 : Int} (h : IsS41 w0 W g f0 f1 f2 f3 f4) (x : Int) : IsS41 w0 (W.setCell ⟨g, 2, none⟩ (.int .i64 x)) g f0 f1 x f3 f4 := by
  obtain ⟨A1, c1, hb, hg, hr1⟩ := h
  exact ⟨A1, c1, by simpa using blk_set hb 2 (.int .i64 x), hg, hr1⟩
theorem cellS41_3 {W : World} {g : Nat} {A1 : Option Addr} {c1 : Nat} {f0 : Int} {f1 : List Int} {f2 : Int} {f3 : Int} {f4 : Int} (h : W.heap[g]? = some (.cells #[.int .i64 f0, .slice A1 f1.length c1, .int .i64 f2, .int .i64 f3, .int .i64 f4] 41 (0, 0))) : W.cell? ⟨g, 3, none⟩ = some (.int .i64 f3) := (blk_cell h 3).trans rfl
theorem IsS41.set_3 {w0 W : World} {g : Nat} {f0 : Int} {f1 : List Int} {f2 : Int} {f3 : Int} {f4 : Int} (h : IsS41 w0 W g f0 f1 f2 f3 f4) (x : Int) : IsS41 w0 (W.setCell ⟨g, 3, none⟩ (.int .i64 x)) g f0 f1 f2 x f4 := by
  obtain ⟨A1, c1, hb, hg, hr1⟩ := h
  exact ⟨A1, c1, by simpa using blk_set hb 3 (.int .i64 x), hg, hr1⟩
theorem cellS41_4 {W : World} {g : Nat} {A1 : Option Addr} {c1 : Nat} {f0 : Int} {f1 : List Int} {f2 : Int} {f3 : Int} {f4 : Int} (h : W.heap[g]? = some (.cells #[.int .i64 f0, .slice A1 f1.length c1, .int .i64 f2, .int .i64 f3, .int .i64 f4] 41 (0, 0))) : W.cell? ⟨g, 4, none⟩ = some (.int .i64 f4) := (blk_cell h 4).trans rfl
theorem IsS41.set_4 {w0 W : World} {g : Nat} {f0 : Int} {f1 : List Int} {f2 : Int} {f3 : Int} {f4 : Int} (h : IsS41 w0 W g f0 f1 f2 f3 f4) (x : Int) : IsS41 w0 (W.setCell ⟨g, 4, none⟩ (.int .i64 x)) g f0 f1 f2 f3 x := by
  obtain ⟨A1, c1, hb, hg, hr1⟩ := h
  exact ⟨A1, c1, by simpa using blk_set hb 4 (.int .i64 x), hg, hr1⟩
/-! ### spec_l05On: function 39 -/
def spec_l05On.f (s0_0 : Int) (s0_1 : List Int) (s0_2 : Int) (s0_3 : Int) (s0_4 : Int) (a1 : Int) : Option (Bool × Int × Int × Int × Int) := if s0_2 ≤ a1 then (some (decide (a1 ≤ s0_3), s0_0, s0_2, s0_3, s0_4)) else (some (false, s0_0, s0_2, s0_3, s0_4))
set_option maxHeartbeats 8000000 in
set_option maxRecDepth 100000 in
theorem spec_l05On.calls (g : Nat) (s0_0 : Int) (s0_1 : List Int) (s0_2 : Int) (s0_3 : Int) (s0_4 : Int) (a1 : Int) (r1 : Bool) (r2 : Int) (r3 : Int) (r4 : Int) (r5 : Int) (w0 w : World) (hI : IsS41 w0 w g s0_0 s0_1 s0_2 s0_3 s0_4) (hB : Below w0.heap.size w0 w) (h : spec_l05On.f s0_0 s0_1 s0_2 s0_3 s0_4 a1 = some (r1, r2, r3, r4, r5)) :
    Calls Tryz.prog 39 #[.pointer (some ⟨g, 0, none⟩), .int .i64 a1] w fun e w' => e = .returned (.bool r1) ∧ IsS41 w0 w' g r2 s0_1 r3 r4 r5 ∧ Below w0.heap.size w0 w' ∧ KeepBut w w' g none := by
  have HI0 := Aside0.mk hI
  have HK := Aside0.mk (KeepBut.refl w g none)
  have HL := Aside0.mk hB.size
  clear hI
  have HW0 := Aside0.mk hB.size
  have HB := Aside0.mk hB
  clear hB
  have H : (if s0_2 ≤ a1 then (some (decide (a1 ≤ s0_3), s0_0, s0_2, s0_3, s0_4)) else (some (false, s0_0, s0_2, s0_3, s0_4))) = some (r1, r2, r3, r4, r5) := h
  clear h
  by_cases c3 : s0_2 ≤ a1
  · rw [if_pos c3] at H
    have c3b0 : decide (s0_2 ≤ a1) = true := decide_eq_true c3
    clear c3
    simp only [Option.some.injEq, Prod.mk.injEq] at H
    obtain ⟨rfl, rfl, rfl, rfl, rfl⟩ := H
    obtain ⟨ASz4_1, cSz4_1, HGz4, hgz4, HSz4_1⟩ := HI0.out
    have hcz4_0 := cellS41_0 HGz4
    have hcz4_1 := cellS41_1 HGz4
    have hcz4_2 := cellS41_2 HGz4
    have hcz4_3 := cellS41_3 HGz4
    have hcz4_4 := cellS41_4 HGz4
    have hfz4_0 := blk_frozen HGz4 0
    have hfz4_2 := blk_frozen HGz4 2
    have hfz4_3 := blk_frozen HGz4 3
    have hfz4_4 := blk_frozen HGz4 4
    clear HGz4 hgz4
    go_enter Tryz.func39, Tryz.ntmps39
    go_wp2
    go_ret
    exact ⟨by first | rfl | (simp [errW_none, errW_some] <;> rfl) | (simp [*, errW_none, errW_some] <;> rfl), by repeat (first | (with_reducible first | exact HI0.out | apply IsS41.alloc | apply IsS41.drewN | apply IsS41.drew | apply IsS41.set_0 | apply IsS41.set_2 | apply IsS41.set_3 | apply IsS41.set_4) | exact HI0.out), by repeat (first | (with_reducible first | exact HB.out | apply below_alloc | apply pw_below_drewN | apply below_drew1 | refine below_set ?_ (IsS41.ge HI0.out)) | exact HB.out), by repeat (first | (with_reducible first | exact HK.out | apply KeepBut.set_ | apply keep_drewN | apply keep_drew | apply keep_alloc) | exact HK.out)⟩
  · rw [if_neg c3] at H
    have c3b0 : decide (s0_2 ≤ a1) = false := decide_eq_false c3
    clear c3
    simp only [Option.some.injEq, Prod.mk.injEq] at H
    obtain ⟨rfl, rfl, rfl, rfl, rfl⟩ := H
    obtain ⟨ASz5_1, cSz5_1, HGz5, hgz5, HSz5_1⟩ := HI0.out
    have hcz5_0 := cellS41_0 HGz5
    have hcz5_1 := cellS41_1 HGz5
    have hcz5_2 := cellS41_2 HGz5
    have hcz5_3 := cellS41_3 HGz5
    have hcz5_4 := cellS41_4 HGz5
    have hfz5_0 := blk_frozen HGz5 0
    have hfz5_2 := blk_frozen HGz5 2
    have hfz5_3 := blk_frozen HGz5 3
    have hfz5_4 := blk_frozen HGz5 4
    clear HGz5 hgz5
    go_enter Tryz.func39, Tryz.ntmps39
    go_wp2
    go_ret
    exact ⟨by first | rfl | (simp [errW_none, errW_some] <;> rfl) | (simp [*, errW_none, errW_some] <;> rfl), by repeat (first | (with_reducible first | exact HI0.out | apply IsS41.alloc | apply IsS41.drewN | apply IsS41.drew | apply IsS41.set_0 | apply IsS41.set_2 | apply IsS41.set_3 | apply IsS41.set_4) | exact HI0.out), by repeat (first | (with_reducible first | exact HB.out | apply below_alloc | apply pw_below_drewN | apply below_drew1 | refine below_set ?_ (IsS41.ge HI0.out)) | exact HB.out), by repeat (first | (with_reducible first | exact HK.out | apply KeepBut.set_ | apply keep_drewN | apply keep_drew | apply keep_alloc) | exact HK.out)⟩
/-! ### spec_l05Place: function 56 -/
def spec_l05Place.f (a0 : Int) : Option (Int) := if a0 < 0 then (some (wrap64 ((wrap64 ((-2) * a0)) - 1))) else (some (wrap64 ((wrap64 (2 * a0)) - 2)))
set_option maxHeartbeats 8000000 in
set_option maxRecDepth 100000 in
theorem spec_l05Place.calls (a0 : Int) (r : Int) (w : World) (h : spec_l05Place.f a0 = some r) :
    Calls Tryz.prog 56 #[.int .i64 a0] w fun e w' => e = .returned (.int .i64 r) ∧ Drawn0 w w' := by
  have H : (if a0 < 0 then (some (wrap64 ((wrap64 ((-2) * a0)) - 1))) else (some (wrap64 ((wrap64 (2 * a0)) - 2)))) = some r := h
  clear h
  by_cases c2 : a0 < 0
  · rw [if_pos c2] at H
    have c2b0 : decide (a0 < 0) = true := decide_eq_true c2
    clear c2
    obtain rfl := Option.some.inj H
    go_enter Tryz.func56, Tryz.ntmps56
    go_wp2
    go_ret
    exact ⟨by first | rfl | (simp; done) | (simp [*]; done), by repeat (first | exact Drawn0.refl _ | apply Drawn0.step)⟩
  · rw [if_neg c2] at H
    have c2b0 : decide (a0 < 0) = false := decide_eq_false c2
    clear c2
    obtain rfl := Option.some.inj H
    go_enter Tryz.func56, Tryz.ntmps56
    go_wp2
    go_ret
    exact ⟨by first | rfl | (simp; done) | (simp [*]; done), by repeat (first | exact Drawn0.refl _ | apply Drawn0.step)⟩
-- NOT PRINTED: function 104 (spec_l05All)
-- NOT PRINTED: function 105 (spec_l05Some)
-- NOT PRINTED: function 82 (spec_l05Proved)
-- NOT PRINTED: function 83 (spec_l05Disproved)
-- NOT PRINTED: function 41 (spec_l05Answer)
-- NOT PRINTED: function 42 (spec_l05Of)
-- NOT PRINTED: function 43 (spec_l05List)
/-! ### laws_b10Has: function 15 -/
def laws_b10Has.l0 : Nat → List Int → Int → Int → Int → Option (Bool)
  | 0, _, _, _, _ => none
  | k + 1, x0, x1, x7, x8 => if x8 < x7 then (if 0 ≤ x8 then (if x8 < (x0.length : Int) then (if (rd x0 x8) = x1 then (some true) else (laws_b10Has.l0 k x0 x1 x7 (wrap64 (x8 + 1)))) else (none)) else (none)) else (some false)
def laws_b10Has.f (k : Nat) (l0 : List Int) (a1 : Int) : Option (Bool) := laws_b10Has.l0 k l0 a1 (l0.length : Int) 0
theorem laws_b10Has.mono_l : ∀ k, (∀ y0 y1 y2 y3, LeO (laws_b10Has.l0 k y0 y1 y2 y3) (laws_b10Has.l0 (k + 1) y0 y1 y2 y3))
  | 0 => fun _ _ _ _ r h => by simp [laws_b10Has.l0] at h
  | k + 1 => by
    have ih0 := laws_b10Has.mono_l k
    · intro y0 y1 y2 y3
      unfold laws_b10Has.l0
      repeat' first
      | (with_reducible exact ih0 _ _ _ _)
      | (with_reducible exact LeO.refl _)
      | (with_reducible exact LeO.none _)
      | (with_reducible refine LeO.ite ?_ ?_)
      | (with_reducible refine LeO.bind ?_ (fun _ => ?_))
      | exact ih0 _ _ _ _
      | exact LeO.none _
      | refine LeO.ite ?_ ?_
      | refine LeO.bind ?_ (fun _ => ?_)
theorem laws_b10Has.mono : ∀ a0 a1 k, LeO (laws_b10Has.f k a0 a1) (laws_b10Has.f (k + 1) a0 a1) := by
  intro a0 a1 k
  have ih0 := laws_b10Has.mono_l k
  unfold laws_b10Has.f
  repeat' first
      | (with_reducible exact ih0 _ _ _ _)
      | (with_reducible exact LeO.refl _)
      | (with_reducible exact LeO.none _)
      | (with_reducible refine LeO.ite ?_ ?_)
      | (with_reducible refine LeO.bind ?_ (fun _ => ?_))
      | exact ih0 _ _ _ _
      | exact LeO.none _
      | refine LeO.ite ?_ ?_
      | refine LeO.bind ?_ (fun _ => ?_)
set_option maxHeartbeats 8000000 in
set_option maxRecDepth 100000 in
theorem laws_b10Has.calls (k : Nat) (A0 : Option Addr) (c0 : Nat) (l0 : List Int) (a1 : Int) (r : Bool) (w : World) (hr0 : Kd.C (Kd.int .i64) w A0 l0.length l0) (hc0 : l0.length ≤ c0) (h : laws_b10Has.f k l0 a1 = some r) :
    Calls Tryz.prog 15 #[.slice A0 l0.length c0, .int .i64 a1] w fun e w' => e = .returned (.bool r) ∧ Drawn0 w w' := by
  have HR0 := Aside0.mk hr0
  have HC0 := Aside0.mk hc0
  clear hr0 hc0
  have H : (laws_b10Has.l0 k l0 a1 (l0.length : Int) 0) = some r := h
  clear h
  have H' := Aside0.mk H
  clear H
  go_enter Tryz.func15, Tryz.ntmps15
  go_wp2
  go_loopg [8] k (fun kq v8 w' => ∃ (x8_1 : Int), v8 = .int .i64 x8_1 ∧ Aside0 (laws_b10Has.l0 kq l0 a1 (l0.length : Int) x8_1 = some r) ∧ Aside0 (kq ≤ k) ∧ Drawn0 w w')
  case atStart => exact ⟨(0), (by first | rfl | (simp; done) | (simp [*]; done)), H', ⟨Nat.le_refl _⟩, by repeat (first | exact Drawn0.refl _ | apply Drawn0.step)⟩
  case round =>
    clear H'
    try clear c1
    try clear p2
    obtain ⟨x8_1, rfl, HA, HK1, ⟨m1, rfl⟩⟩ := hrel
    cases gk with
    | zero => exact absurd HA.out (by simp [laws_b10Has.l0])
    | succ k1 =>
      have H := HA.out
      clear HA
      simp only [laws_b10Has.l0] at H
      by_cases c3 : x8_1 < (l0.length : Int)
      · rw [if_pos c3] at H
        have c3b0 : decide (x8_1 < (l0.length : Int)) = true := decide_eq_true c3
        clear c3
        by_cases c4 : 0 ≤ x8_1
        · rw [if_pos c4] at H
          have c4b0 : decide (0 ≤ x8_1) = true := decide_eq_true c4
          clear c4
          by_cases c5 : x8_1 < (l0.length : Int)
          · rw [if_pos c5] at H
            have c5b0 : decide (x8_1 < (l0.length : Int)) = true := decide_eq_true c5
            clear c5
            by_cases c6 : (rd l0 x8_1) = a1
            · rw [if_pos c6] at H
              have c6b0 : ((rd l0 x8_1) == a1) = true := beq_iff_eq.mpr c6
              have c6b1 : ((rd l0 x8_1) != a1) = false := bne_eq_false_iff_eq.mpr c6
              clear c6
              obtain rfl := Option.some.inj H
              have p244 : 0 ≤ (x8_1 : Int) := of_decide_eq_true (by first | (with_reducible assumption) | assumption)
              have q244 : x8_1 < (l0.length : Int) := of_decide_eq_true (by first | (with_reducible assumption) | assumption)
              obtain ⟨ad244, e244, hx244_0⟩ := Kd.at_int HR0.out x8_1 p244 q244
              cases e244
              replace p244 := eq_true p244
              replace q244 := eq_true q244
              go_wp2
              go_ret
              exact ⟨by first | rfl | (simp; done) | (simp [*]; done), by repeat (first | exact Drawn0.refl _ | apply Drawn0.step)⟩
            · rw [if_neg c6] at H
              have c6b0 : ((rd l0 x8_1) == a1) = false := beq_eq_false_iff_ne.mpr c6
              have c6b1 : ((rd l0 x8_1) != a1) = true := bne_iff_ne.mpr c6
              have H' := Aside0.mk H
              clear H
              have p244 : 0 ≤ (x8_1 : Int) := of_decide_eq_true (by first | (with_reducible assumption) | assumption)
              have q244 : x8_1 < (l0.length : Int) := of_decide_eq_true (by first | (with_reducible assumption) | assumption)
              obtain ⟨ad244, e244, hx244_0⟩ := Kd.at_int HR0.out x8_1 p244 q244
              cases e244
              replace p244 := eq_true p244
              replace q244 := eq_true q244
              go_wp2
              go_roundg k1
              case measure => have := HK1.out; omega
              case rel => exact ⟨(wrap64 (x8_1 + 1)), (by first | rfl | (simp; done) | (simp [*]; done)), H', ⟨by have := HK1.out; omega⟩, by repeat (first | exact Drawn0.refl _ | apply Drawn0.step)⟩
          · rw [if_neg c5] at H
            exact absurd H (by simp)
        · rw [if_neg c4] at H
          exact absurd H (by simp)
      · rw [if_neg c3] at H
        have c3b0 : decide (x8_1 < (l0.length : Int)) = false := decide_eq_false c3
        clear c3
        obtain rfl := Option.some.inj H
        go_wp2
        go_ret
        exact ⟨by first | rfl | (simp; done) | (simp [*]; done), by repeat (first | exact Drawn0.refl _ | apply Drawn0.step)⟩
/-! ### impl_cloneRule: function 45 -/
def impl_cloneRule.f (a0_0 : Int) (l0_1 : List Int) (a0_2 : Int) (a0_3 : Int) (a0_4 : Int) : Option (Int × List Int × Int × Int × Int) := (some (([] : List Int) : List Int)).bind fun y247 => (if y247.length + l0_1.length < 17592186044416 then (some (a0_0, (y247 ++ l0_1), a0_2, a0_3, a0_4)) else (none))
set_option maxHeartbeats 8000000 in
set_option maxRecDepth 100000 in
theorem impl_cloneRule.calls (a0_0 : Int) (A0_1 : Option Addr) (c0_1 : Nat) (l0_1 : List Int) (a0_2 : Int) (a0_3 : Int) (a0_4 : Int) (r1 : Int) (r2 : List Int) (r3 : Int) (r4 : Int) (r5 : Int) (w : World) (hr0_1 : Kd.C (Kd.int .i64) w A0_1 l0_1.length l0_1) (hc0_1 : l0_1.length ≤ c0_1) (h : impl_cloneRule.f a0_0 l0_1 a0_2 a0_3 a0_4 = some (r1, r2, r3, r4, r5)) :
    Calls Tryz.prog 45 #[.agg #[.int .i64 a0_0, .slice A0_1 l0_1.length c0_1, .int .i64 a0_2, .int .i64 a0_3, .int .i64 a0_4]] w fun e w' => ∃ v1_ : Value, e = .returned (.agg #[.int .i64 r1, v1_, .int .i64 r3, .int .i64 r4, .int .i64 r5]) ∧ Kd.R (Kd.int .i64) 2 w' w.heap.size (fun _ => True) v1_ r2 ∧ Below w.heap.size w w' := by
  have hu41 := Tryz.underlying41
  have HR0_1 := Aside0.mk hr0_1
  have HC0_1 := Aside0.mk hc0_1
  clear hr0_1 hc0_1
  have HB := Aside0.mk (Below.refl w.heap.size w)
  have H : ((some (([] : List Int) : List Int)).bind fun y247 => (if y247.length + l0_1.length < 17592186044416 then (some (a0_0, (y247 ++ l0_1), a0_2, a0_3, a0_4)) else (none))) = some (r1, r2, r3, r4, r5) := h
  clear h
  obtain ⟨y247, hy247⟩ : ∃ y_ : List Int, y_ = (([] : List Int)) := ⟨_, rfl⟩
  replace H : (if y247.length + l0_1.length < 17592186044416 then (some (a0_0, (y247 ++ l0_1), a0_2, a0_3, a0_4)) else (none)) = some (r1, r2, r3, r4, r5) := by first | (rw [hy247]; with_reducible exact H) | (have H2_ := (Option.bind_some _ _).symm.trans H; rw [hy247]; with_reducible exact H2_) | (have H2_ := (Option.bind_some _ _).symm.trans H; with_reducible exact H2_) | with_reducible exact H | (rw [hy247]; exact H) | exact H
  have Ny247 := Aside0.mk hy247
  clear hy247
  by_cases c2 : y247.length + l0_1.length < 17592186044416
  · rw [if_pos c2] at H
    have LMc2 := Aside0.mk c2
    clear c2
    obtain ⟨y250, hy250⟩ : ∃ y_ : List Int, y_ = (y247 ++ l0_1) := ⟨_, rfl⟩
    replace H : (some (a0_0, y250, a0_2, a0_3, a0_4)) = some (r1, r2, r3, r4, r5) := by first | (rw [hy250]; with_reducible exact H) | (have H2_ := (Option.bind_some _ _).symm.trans H; rw [hy250]; with_reducible exact H2_) | (have H2_ := (Option.bind_some _ _).symm.trans H; with_reducible exact H2_) | with_reducible exact H | (rw [hy250]; exact H) | exact H
    have Ny250 := Aside0.mk hy250
    clear hy250
    simp only [Option.some.injEq, Prod.mk.injEq] at H
    obtain ⟨rfl, rfl, rfl, rfl, rfl⟩ := H
    go_enter Tryz.func45, Tryz.ntmps45
    go_wp2_with (first | ((with_reducible refine gate_dst (N := 1) rfl ?_); refine box_event ?hg (N := 1) ?hd (cs := #[.int .i64 a0_0, .slice A0_1 l0_1.length c0_1, .int .i64 a0_2, .int .i64 a0_3, .int .i64 a0_4]) (t := 41) ?hr ?_; (case hd => rfl); (case hg => rfl); (case hr => first | (go_simp; done) | (go_simp; rfl)); intro gb245 hg w3 hbox hb; have n0_ := Aside0.mk (below_step (by repeat (first | (with_reducible first | exact HB.out | apply below_alloc | apply pw_below_drewN | apply below_drew1) | exact HB.out)) hb); have n1_ := Aside0.mk (hbox); have n2_ := Aside0.mk ((by rw [hg]; exact (below_size (by repeat (first | (with_reducible first | exact HB.out | apply below_alloc | apply pw_below_drewN | apply below_drew1) | exact HB.out))) : w.heap.size ≤ gb245)); have n3_ := Aside0.mk ((by rw [hg]; exact (below_size (by repeat (first | (with_reducible first | exact HB.out | apply below_alloc | apply pw_below_drewN | apply below_drew1) | exact HB.out))) : w.heap.size ≤ gb245)); clear HB; have HB := n0_; have BK245 := n1_; have GW245 := n2_; have GE245 := n3_; clear n0_ n1_ n2_ n3_; clear hb hbox hg) | ((with_reducible refine gate_dst (N := 2) rfl ?_); refine box_event ?hg (N := 2) ?hd (cs := #[.int .i64 0, .slice none 0 0, .int .i64 0, .int .i64 0, .int .i64 0]) (t := 41) ?hr ?_; (case hd => rfl); (case hg => rfl); (case hr => first | (go_simp; done) | (go_simp; rfl)); intro gb246 hg w4 hbox hb; have n0_ := Aside0.mk (blk_below (g := gb245) (o := .cells #[.int .i64 a0_0, .slice A0_1 l0_1.length c0_1, .int .i64 a0_2, .int .i64 a0_3, .int .i64 a0_4] 41 (0, 0)) (by (with_reducible repeat (first | refine blk_drewN ?_ _ | refine blk_drew ?_ | refine blk_alloc ?_ _)); exact BK245.out) hb); have n1_ := Aside0.mk (below_step (by repeat (first | (with_reducible first | exact HB.out | apply below_alloc | apply pw_below_drewN | apply below_drew1 | refine below_set ?_ GE245.out) | exact HB.out)) hb); have n2_ := Aside0.mk (hbox); have n3_ := Aside0.mk ((by rw [hg]; exact (below_size (by repeat (first | (with_reducible first | exact HB.out | apply below_alloc | apply pw_below_drewN | apply below_drew1 | refine below_set ?_ GE245.out) | exact HB.out))) : w.heap.size ≤ gb246)); have n4_ := Aside0.mk ((by rw [hg]; exact (below_size (by repeat (first | (with_reducible first | exact HB.out | apply below_alloc | apply pw_below_drewN | apply below_drew1 | refine below_set ?_ GE245.out) | exact HB.out))) : w.heap.size ≤ gb246)); have n5_ := Aside0.mk ((by rw [hg]; exact Nat.ne_of_lt (blk_lt (g := gb245) (o := .cells #[.int .i64 a0_0, .slice A0_1 l0_1.length c0_1, .int .i64 a0_2, .int .i64 a0_3, .int .i64 a0_4] 41 (0, 0)) (by (with_reducible repeat (first | refine blk_drewN ?_ _ | refine blk_drew ?_ | refine blk_alloc ?_ _)); exact BK245.out)) : gb245 ≠ gb246)); have n6_ := Aside0.mk ((by rw [hg]; exact Nat.ne_of_gt (blk_lt (g := gb245) (o := .cells #[.int .i64 a0_0, .slice A0_1 l0_1.length c0_1, .int .i64 a0_2, .int .i64 a0_3, .int .i64 a0_4] 41 (0, 0)) (by (with_reducible repeat (first | refine blk_drewN ?_ _ | refine blk_drew ?_ | refine blk_alloc ?_ _)); exact BK245.out)) : gb246 ≠ gb245)); clear BK245; clear HB; have BK245 := n0_; have HB := n1_; have BK246 := n2_; have GW246 := n3_; have GE246 := n4_; have NB245_246 := n5_; have NB246_245 := n6_; clear n0_ n1_ n2_ n3_ n4_ n5_ n6_; clear hb hbox hg) | ((with_reducible refine gate_dst (N := 3) rfl ?_); refine Kd.R_lit (Kd.int .i64) _ 2 ?hg (N := 3) ?hd (xs := ([] : List Int)) (inner := []) (ok := fun _ => True) (okp := fun _ => True) ?hr ?hp (fun _ hk => hk) trivial (Below.refl _ _) (Nat.le_refl _) (by simp) ?_; (case hd => rfl); (case hg => rfl); (case hr => first | (go_simp; done) | (go_simp; rfl)); (case hp => exact (Reps.none _ _)); intro v248 w5 ho6 hb hg_ hnew_; clear hg_ hnew_; (first | rw [← Ny247.out] at ho6 | (simp only [Int.reduceToNat] at ho6; rw [← Ny247.out] at ho6)); have n0_ := Aside0.mk (Kd.R_lower ho6 (below_size (by repeat (first | (with_reducible first | exact HB.out | apply below_alloc | apply pw_below_drewN | apply below_drew1 | refine below_set ?_ GE245.out | refine below_set ?_ GE246.out) | exact HB.out)))); have n1_ := Aside0.mk (blk_below (g := gb245) (o := .cells #[.int .i64 a0_0, .slice A0_1 l0_1.length c0_1, .int .i64 a0_2, .int .i64 a0_3, .int .i64 a0_4] 41 (0, 0)) (by (with_reducible repeat (first | refine blk_drewN ?_ _ | refine blk_drew ?_ | refine blk_alloc ?_ _)); exact BK245.out) hb); have n2_ := Aside0.mk (blk_below (g := gb246) (o := .cells #[.int .i64 0, .slice none 0 0, .int .i64 0, .int .i64 0, .int .i64 0] 41 (0, 0)) (by (with_reducible repeat (first | refine blk_drewN ?_ _ | refine blk_drew ?_ | refine blk_alloc ?_ _)); exact BK246.out) hb); have n3_ := Aside0.mk (below_step (by repeat (first | (with_reducible first | exact HB.out | apply below_alloc | apply pw_below_drewN | apply below_drew1 | refine below_set ?_ GE245.out | refine below_set ?_ GE246.out) | exact HB.out)) hb); clear BK245; clear BK246; clear HB; have HO249 := n0_; have BK245 := n1_; have BK246 := n2_; have HB := n3_; clear n0_ n1_ n2_ n3_; clear hb ho6; have hnb7 := NB245_246.out; have hnc7 := NB246_245.out; have hcz8_0 : w5.cell? ⟨gb245, 0, none⟩ = some (.int .i64 a0_0) := (blk_cell BK245.out 0).trans rfl; have hcz8_1 : w5.cell? ⟨gb245, 1, none⟩ = some (.slice A0_1 l0_1.length c0_1) := (blk_cell BK245.out 1).trans rfl; have hcz8_2 : w5.cell? ⟨gb245, 2, none⟩ = some (.int .i64 a0_2) := (blk_cell BK245.out 2).trans rfl; have hcz8_3 : w5.cell? ⟨gb245, 3, none⟩ = some (.int .i64 a0_3) := (blk_cell BK245.out 3).trans rfl; have hcz8_4 : w5.cell? ⟨gb245, 4, none⟩ = some (.int .i64 a0_4) := (blk_cell BK245.out 4).trans rfl; have hfz8_0 := blk_frozen BK245.out 0; have hfz8_1 := blk_frozen BK245.out 1; have hfz8_2 := blk_frozen BK245.out 2; have hfz8_3 := blk_frozen BK245.out 3; have hfz8_4 := blk_frozen BK245.out 4) | ((with_reducible refine gate_builtin (b := .append) (xs := #[.tmp 3, .tmp 5]) rfl ?_); at_builtin; refine Kd.R_append_rows (Kd.int .i64) (w0 := w) w.heap.size rfl (.tmp 3) (.tmp 5) 26 2 (.int .i64 0) 8 rfl Tryz.underlying26 info2 rfl (by decide) (by omega) v248 y247 l0_1 _ _ _ (fun _ => True) (fun _ => False) rfl rfl ?aO ?aR (fun _ _ h => h) (fun _ h => h.elim) ?aF ?aB ?aS ?aL ?_; (case aR => repeat (first | exact (Kd.C_below HR0_1.out HB.out) | (with_reducible refine Kd.C_alloc ?_ _) | (with_reducible refine Kd.C_drewN ?_ _) | (with_reducible refine Kd.C_drew ?_))); (case aB => exact (by repeat (first | (with_reducible first | exact HB.out | apply below_alloc | apply pw_below_drewN | apply below_drew1 | refine below_set ?_ GE245.out | refine below_set ?_ GE246.out) | exact HB.out))); (case aF => exact (fun _ _ => trivial)); (case aO => exact (by (with_reducible repeat (first | apply Kd.R_alloc | apply Kd.R_drewN | apply Kd.R_drew)); exact HO249.out)); (case aS => exact (below_size (by repeat (first | (with_reducible first | exact HB.out | apply below_alloc | apply pw_below_drewN | apply below_drew1 | refine below_set ?_ GE245.out | refine below_set ?_ GE246.out) | exact HB.out)))); (case aL => have := LMc2.out; omega); intro v251 w9 ho hb hg hat; rw [← Ny250.out] at ho; have n0_ := Aside0.mk (blk_grown (g := gb245) (o := .cells #[.int .i64 a0_0, .slice A0_1 l0_1.length c0_1, .int .i64 a0_2, .int .i64 a0_3, .int .i64 a0_4] 41 (0, 0)) (by (with_reducible repeat (first | refine blk_drewN ?_ _ | refine blk_drew ?_ | refine blk_alloc ?_ _)); exact BK245.out) hg (Kd.R_ne HO249.out BK245.out (by decide))); have n1_ := Aside0.mk (blk_grown (g := gb246) (o := .cells #[.int .i64 0, .slice none 0 0, .int .i64 0, .int .i64 0, .int .i64 0] 41 (0, 0)) (by (with_reducible repeat (first | refine blk_drewN ?_ _ | refine blk_drew ?_ | refine blk_alloc ?_ _)); exact BK246.out) hg (Kd.R_ne HO249.out BK246.out (by decide))); have n2_ := Aside0.mk (hb); have n3_ := Aside0.mk (ho); clear BK245; clear BK246; clear HB; clear HO249; have BK245 := n0_; have BK246 := n1_; have HB := n2_; have HO252 := n3_; clear n0_ n1_ n2_ n3_; clear ho hb hg hat; obtain ⟨Ao10, co10, eo10⟩ := Kd.R_slice HO252.out; subst eo10; have hcz11_0 : w9.cell? ⟨gb245, 0, none⟩ = some (.int .i64 a0_0) := (blk_cell BK245.out 0).trans rfl; have hcz11_1 : w9.cell? ⟨gb245, 1, none⟩ = some (.slice A0_1 l0_1.length c0_1) := (blk_cell BK245.out 1).trans rfl; have hcz11_2 : w9.cell? ⟨gb245, 2, none⟩ = some (.int .i64 a0_2) := (blk_cell BK245.out 2).trans rfl; have hcz11_3 : w9.cell? ⟨gb245, 3, none⟩ = some (.int .i64 a0_3) := (blk_cell BK245.out 3).trans rfl; have hcz11_4 : w9.cell? ⟨gb245, 4, none⟩ = some (.int .i64 a0_4) := (blk_cell BK245.out 4).trans rfl; have hfz11_0 := blk_frozen BK245.out 0; have hfz11_1 := blk_frozen BK245.out 1; have hfz11_2 := blk_frozen BK245.out 2; have hfz11_3 := blk_frozen BK245.out 3; have hfz11_4 := blk_frozen BK245.out 4; have hcz12_0 : w9.cell? ⟨gb246, 0, none⟩ = some (.int .i64 0) := (blk_cell BK246.out 0).trans rfl; have hcz12_1 : w9.cell? ⟨gb246, 1, none⟩ = some (.slice none 0 0) := (blk_cell BK246.out 1).trans rfl; have hcz12_2 : w9.cell? ⟨gb246, 2, none⟩ = some (.int .i64 0) := (blk_cell BK246.out 2).trans rfl; have hcz12_3 : w9.cell? ⟨gb246, 3, none⟩ = some (.int .i64 0) := (blk_cell BK246.out 3).trans rfl; have hcz12_4 : w9.cell? ⟨gb246, 4, none⟩ = some (.int .i64 0) := (blk_cell BK246.out 4).trans rfl; have hfz12_0 := blk_frozen BK246.out 0; have hfz12_1 := blk_frozen BK246.out 1; have hfz12_2 := blk_frozen BK246.out 2; have hfz12_3 := blk_frozen BK246.out 3; have hfz12_4 := blk_frozen BK246.out 4))
    refine bodyPost_ret (results_cell_row rfl _ _ gb246 41 #[.int .i64 a0_0, .slice Ao10 y250.length co10, .int .i64 a0_2, .int .i64 a0_3, .int .i64 a0_4] (0, 0) _ rfl (by (with_reducible repeat (first | refine blk_drewN ?_ _ | refine blk_drew ?_ | refine blk_alloc ?_ _)); refine blk_put (cs := #[.int .i64 a0_0, .slice Ao10 y250.length co10, .int .i64 a0_2, .int .i64 a0_3, .int .i64 0]) ?_ 4 _ rfl; (with_reducible repeat (first | refine blk_drewN ?_ _ | refine blk_drew ?_ | refine blk_alloc ?_ _)); refine blk_put (cs := #[.int .i64 a0_0, .slice Ao10 y250.length co10, .int .i64 a0_2, .int .i64 0, .int .i64 0]) ?_ 3 _ rfl; (with_reducible repeat (first | refine blk_drewN ?_ _ | refine blk_drew ?_ | refine blk_alloc ?_ _)); refine blk_put (cs := #[.int .i64 a0_0, .slice Ao10 y250.length co10, .int .i64 0, .int .i64 0, .int .i64 0]) ?_ 2 _ rfl; (with_reducible repeat (first | refine blk_drewN ?_ _ | refine blk_drew ?_ | refine blk_alloc ?_ _)); refine blk_put (cs := #[.int .i64 a0_0, .slice none 0 0, .int .i64 0, .int .i64 0, .int .i64 0]) ?_ 1 _ rfl; (with_reducible repeat (first | refine blk_drewN ?_ _ | refine blk_drew ?_ | refine blk_alloc ?_ _)); refine blk_put (cs := #[.int .i64 0, .slice none 0 0, .int .i64 0, .int .i64 0, .int .i64 0]) ?_ 0 _ rfl; (with_reducible repeat (first | refine blk_drewN ?_ _ | refine blk_drew ?_ | refine blk_alloc ?_ _)); refine blk_far ?_ NB246_245.out _; (with_reducible repeat (first | refine blk_drewN ?_ _ | refine blk_drew ?_ | refine blk_alloc ?_ _)); exact BK246.out) Tryz.underlying41 rfl (by kernel_rfl)) rfl ?_
    exact ⟨_, by first | rfl | (simp [errW_none, errW_some] <;> rfl) | (simp [*, errW_none, errW_some] <;> rfl), by (with_reducible repeat (first | apply Kd.R_alloc | apply Kd.R_drewN | apply Kd.R_drew)); exact Kd.R_mono (Kd.R_far (p := ⟨gb246, 4, none⟩) (Kd.R_far (p := ⟨gb246, 3, none⟩) (Kd.R_far (p := ⟨gb246, 2, none⟩) (Kd.R_far (p := ⟨gb246, 1, none⟩) (Kd.R_far (p := ⟨gb246, 0, none⟩) (Kd.R_far (p := ⟨gb245, 1, none⟩) (Kd.R_types (Kd.R_types HO252.out BK245.out (by decide)) BK246.out (by decide)) (fun _ hk => hk.1.2) (.slice Ao10 y250.length co10)) (fun _ hk => hk.2) (.int .i64 a0_0)) (fun _ hk => hk.2) (.slice Ao10 y250.length co10)) (fun _ hk => hk.2) (.int .i64 a0_2)) (fun _ hk => hk.2) (.int .i64 a0_3)) (fun _ hk => hk.2) (.int .i64 a0_4)) (fun _ hk => trivial), by repeat (first | (with_reducible first | exact HB.out | apply below_alloc | apply pw_below_drewN | apply below_drew1 | refine below_set ?_ GE245.out | refine below_set ?_ GE246.out) | exact HB.out)⟩
  · rw [if_neg c2] at H
    exact absurd H (by simp)
end Go.Proofs.YtoippneeagaceaaGreat.PR

namespace Go.Proofs.YtoippneeagaceaaGreat.PR
open Go.RowKit Go.Proofs.YtoippneeagaceaaGreatW.PrintWords Go.Proofs.YtoippneeagaceaaGreatW.PrintLast Go.Proofs.YtoippneeagaceaaGreatW.PrintMore
attribute [local go_sem] max2_int min2_int max_two min_two max_three min_three max_four min_four   -- for this text's walks alone
set_option linter.unusedVariables false
set_option linter.unusedSimpArgs false
/-! ### spec_l05OwnRules: function 47 -/
def spec_l05OwnRules.l0 : Nat → List (S41) → List (S41) → Int → Int → Option ((List (S41)))
  | 0, _, _, _, _ => none
  | k + 1, x0, x3, x8, x9 => if x9 < x8 then (if 0 ≤ x9 then (if x9 < (x0.length : Int) then ((some (([] : List Int) : List Int)).bind fun y258 => (if y258.length + ((rd_T41 x0 x9).f1).length < 17592186044416 then (if x3.length < 2513169434916 then (spec_l05OwnRules.l0 k x0 (x3 ++ [(⟨(rd_T41 x0 x9).f0, (y258 ++ ((rd_T41 x0 x9).f1)), (rd_T41 x0 x9).f2, (rd_T41 x0 x9).f3, (rd_T41 x0 x9).f4⟩ : S41)]) x8 (wrap64 (x9 + 1))) else (none)) else (none))) else (none)) else (none)) else (some x3)
def spec_l05OwnRules.f (k : Nat) (l0 : List (S41)) : Option ((List (S41))) := spec_l05OwnRules.l0 k l0 (([] : List (S41))) (l0.length : Int) 0
theorem spec_l05OwnRules.mono_l : ∀ k, (∀ y0 y1 y2 y3, LeO (spec_l05OwnRules.l0 k y0 y1 y2 y3) (spec_l05OwnRules.l0 (k + 1) y0 y1 y2 y3))
  | 0 => fun _ _ _ _ r h => by simp [spec_l05OwnRules.l0] at h
  | k + 1 => by
    have ih0 := spec_l05OwnRules.mono_l k
    · intro y0 y1 y2 y3
      unfold spec_l05OwnRules.l0
      repeat' first
      | (with_reducible exact ih0 _ _ _ _)
      | (with_reducible exact LeO.refl _)
      | (with_reducible exact LeO.none _)
      | (with_reducible refine LeO.ite ?_ ?_)
      | (with_reducible refine LeO.bind ?_ (fun _ => ?_))
      | exact ih0 _ _ _ _
      | exact LeO.none _
      | refine LeO.ite ?_ ?_
      | refine LeO.bind ?_ (fun _ => ?_)
theorem spec_l05OwnRules.mono : ∀ a0 k, LeO (spec_l05OwnRules.f k a0) (spec_l05OwnRules.f (k + 1) a0) := by
  intro a0 k
  have ih0 := spec_l05OwnRules.mono_l k
  unfold spec_l05OwnRules.f
  repeat' first
      | (with_reducible exact ih0 _ _ _ _)
      | (with_reducible exact LeO.refl _)
      | (with_reducible exact LeO.none _)
      | (with_reducible refine LeO.ite ?_ ?_)
      | (with_reducible refine LeO.bind ?_ (fun _ => ?_))
      | exact ih0 _ _ _ _
      | exact LeO.none _
      | refine LeO.ite ?_ ?_
      | refine LeO.bind ?_ (fun _ => ?_)
set_option maxHeartbeats 8000000 in
set_option maxRecDepth 100000 in
theorem spec_l05OwnRules.calls (k : Nat) (A0 : Option Addr) (c0 : Nat) (l0 : List (S41)) (r : List (S41)) (w : World) (hr0 : Kd.C k41 w A0 l0.length l0) (hc0 : l0.length ≤ c0) (h : spec_l05OwnRules.f k l0 = some r) :
    Calls Tryz.prog 47 #[.slice A0 l0.length c0] w fun e w' => ∃ v0_ : Value, e = .returned (v0_) ∧ Kd.S k41 41 w' w.heap.size (fun _ => True) v0_ r ∧ Below w.heap.size w w' := by
  have hu41 := Tryz.underlying41
  have HR0 := Aside0.mk hr0
  have HC0 := Aside0.mk hc0
  clear hr0 hc0
  have HB := Aside0.mk (Below.refl w.heap.size w)
  have H : (spec_l05OwnRules.l0 k l0 (([] : List (S41))) (l0.length : Int) 0) = some r := h
  clear h
  obtain ⟨y253, hy253⟩ : ∃ y_ : List (S41), y_ = (([] : List (S41))) := ⟨_, rfl⟩
  replace H : (spec_l05OwnRules.l0 k l0 y253 (l0.length : Int) 0) = some r := by first | (rw [hy253]; with_reducible exact H) | (have H2_ := (Option.bind_some _ _).symm.trans H; rw [hy253]; with_reducible exact H2_) | (have H2_ := (Option.bind_some _ _).symm.trans H; with_reducible exact H2_) | with_reducible exact H | (rw [hy253]; exact H) | exact H
  have Ny253 := Aside0.mk hy253
  clear hy253
  have H' := Aside0.mk H
  clear H
  go_enter Tryz.func47, Tryz.ntmps47
  go_wp2_with (first | ((with_reducible refine gate_dst (N := 6) rfl ?_); refine Kd.S_lit k41 _ 41 ?hg (N := 6) ?hd (xs := ([] : List (S41))) (inner := []) (ok := fun _ => True) (okp := fun _ => True) ?hr ?hp (fun _ hk => hk) trivial (Below.refl _ _) (Nat.le_refl _) (by simp) ?_; (case hd => rfl); (case hg => rfl); (case hr => first | (go_simp; done) | (go_simp; rfl)); (case hp => exact (Reps.none _ _)); intro v254 w2 ho3 hb hg_ hnew_; clear hg_ hnew_; (first | rw [← Ny253.out] at ho3 | (simp only [Int.reduceToNat] at ho3; rw [← Ny253.out] at ho3)); have n0_ := Aside0.mk (Kd.S_lower ho3 (below_size (by repeat (first | (with_reducible first | exact HB.out | apply below_alloc | apply pw_below_drewN | apply below_drew1) | exact HB.out)))); have n1_ := Aside0.mk (below_step (by repeat (first | (with_reducible first | exact HB.out | apply below_alloc | apply pw_below_drewN | apply below_drew1) | exact HB.out)) hb); clear HB; have HO255 := n0_; have HB := n1_; clear n0_ n1_; clear hb ho3))
  go_loopg [3, 9] k (fun kq v3 v9 w' => ∃ (x3_1 : List (S41)) (x9_1 : Int), v9 = .int .i64 x9_1 ∧ Aside0 (spec_l05OwnRules.l0 kq l0 x3_1 (l0.length : Int) x9_1 = some r) ∧ Aside0 (kq ≤ k) ∧ Aside0 (Kd.S k41 41 w' w.heap.size (fun _ => True) v3 x3_1) ∧ Aside0 (Below w.heap.size w w'))
  case atStart => exact ⟨(y253), (0), (by first | rfl | (simp; done) | (simp [*]; done)), H', ⟨Nat.le_refl _⟩, ⟨by (with_reducible repeat (first | apply Kd.S_alloc | apply Kd.S_drewN | apply Kd.S_drew)); exact HO255.out⟩, ⟨by repeat (first | (with_reducible first | exact HB.out | apply below_alloc | apply pw_below_drewN | apply below_drew1) | exact HB.out)⟩⟩
  case round =>
    clear H'
    try clear p2
    obtain ⟨x3_1, x9_1, rfl, HA, HK1, HO_3, HB⟩ := hrel
    cases gk with
    | zero => exact absurd HA.out (by simp [spec_l05OwnRules.l0])
    | succ k1 =>
      have H := HA.out
      clear HA
      simp only [spec_l05OwnRules.l0] at H
      by_cases c4 : x9_1 < (l0.length : Int)
      · rw [if_pos c4] at H
        have c4b0 : decide (x9_1 < (l0.length : Int)) = true := decide_eq_true c4
        clear c4
        by_cases c5 : 0 ≤ x9_1
        · rw [if_pos c5] at H
          have c5b0 : decide (0 ≤ x9_1) = true := decide_eq_true c5
          clear c5
          by_cases c6 : x9_1 < (l0.length : Int)
          · rw [if_pos c6] at H
            have c6b0 : decide (x9_1 < (l0.length : Int)) = true := decide_eq_true c6
            clear c6
            obtain ⟨y258, hy258⟩ : ∃ y_ : List Int, y_ = (([] : List Int)) := ⟨_, rfl⟩
            replace H : (if y258.length + ((rd_T41 l0 x9_1).f1).length < 17592186044416 then (if x3_1.length < 2513169434916 then (spec_l05OwnRules.l0 k1 l0 (x3_1 ++ [(⟨(rd_T41 l0 x9_1).f0, (y258 ++ ((rd_T41 l0 x9_1).f1)), (rd_T41 l0 x9_1).f2, (rd_T41 l0 x9_1).f3, (rd_T41 l0 x9_1).f4⟩ : S41)]) (l0.length : Int) (wrap64 (x9_1 + 1))) else (none)) else (none)) = some r := by first | (rw [hy258]; with_reducible exact H) | (have H2_ := (Option.bind_some _ _).symm.trans H; rw [hy258]; with_reducible exact H2_) | (have H2_ := (Option.bind_some _ _).symm.trans H; with_reducible exact H2_) | with_reducible exact H | (rw [hy258]; exact H) | exact H
            have Ny258 := Aside0.mk hy258
            clear hy258
            by_cases c7 : y258.length + ((rd_T41 l0 x9_1).f1).length < 17592186044416
            · rw [if_pos c7] at H
              have LMc7 := Aside0.mk c7
              clear c7
              obtain ⟨y261, hy261⟩ : ∃ y_ : List Int, y_ = (y258 ++ ((rd_T41 l0 x9_1).f1)) := ⟨_, rfl⟩
              replace H : (if x3_1.length < 2513169434916 then (spec_l05OwnRules.l0 k1 l0 (x3_1 ++ [(⟨(rd_T41 l0 x9_1).f0, y261, (rd_T41 l0 x9_1).f2, (rd_T41 l0 x9_1).f3, (rd_T41 l0 x9_1).f4⟩ : S41)]) (l0.length : Int) (wrap64 (x9_1 + 1))) else (none)) = some r := by first | (rw [hy261]; with_reducible exact H) | (have H2_ := (Option.bind_some _ _).symm.trans H; rw [hy261]; with_reducible exact H2_) | (have H2_ := (Option.bind_some _ _).symm.trans H; with_reducible exact H2_) | with_reducible exact H | (rw [hy261]; exact H) | exact H
              have Ny261 := Aside0.mk hy261
              clear hy261
              by_cases c8 : x3_1.length < 2513169434916
              · rw [if_pos c8] at H
                have LMc8 := Aside0.mk c8
                clear c8
                obtain ⟨y264, hy264⟩ : ∃ y_ : List (S41), y_ = (x3_1 ++ [(⟨(rd_T41 l0 x9_1).f0, y261, (rd_T41 l0 x9_1).f2, (rd_T41 l0 x9_1).f3, (rd_T41 l0 x9_1).f4⟩ : S41)]) := ⟨_, rfl⟩
                replace H : (spec_l05OwnRules.l0 k1 l0 y264 (l0.length : Int) (wrap64 (x9_1 + 1))) = some r := by first | (rw [hy264]; with_reducible exact H) | (have H2_ := (Option.bind_some _ _).symm.trans H; rw [hy264]; with_reducible exact H2_) | (have H2_ := (Option.bind_some _ _).symm.trans H; with_reducible exact H2_) | with_reducible exact H | (rw [hy264]; exact H) | exact H
                have Ny264 := Aside0.mk hy264
                clear hy264
                have H' := Aside0.mk H
                clear H
                have p256 : 0 ≤ (x9_1 : Int) := of_decide_eq_true (by first | (with_reducible assumption) | assumption)
                have q256 : x9_1 < (l0.length : Int) := of_decide_eq_true (by first | (with_reducible assumption) | assumption)
                obtain ⟨ad256, A256_1, c256_1, e256, hx256_0, hx256_1, hx256_2, hx256_3, hx256_4, hl256_1, hi256_1⟩ := at_T41 HR0.out x9_1 p256 q256
                cases e256
                replace hx256_0 := (HB.out.cell (World.block_lt_of_cell? w _ hx256_0)).trans hx256_0
                replace hx256_1 := (HB.out.cell (World.block_lt_of_cell? w _ hx256_1)).trans hx256_1
                replace hx256_2 := (HB.out.cell (World.block_lt_of_cell? w _ hx256_2)).trans hx256_2
                replace hx256_3 := (HB.out.cell (World.block_lt_of_cell? w _ hx256_3)).trans hx256_3
                replace hx256_4 := (HB.out.cell (World.block_lt_of_cell? w _ hx256_4)).trans hx256_4
                have HR256_1 := Aside0.mk hi256_1
                have HC256_1 := Aside0.mk hl256_1
                clear hi256_1 hl256_1
                replace p256 := eq_true p256
                replace q256 := eq_true q256
                go_wp2_with (first | ((with_reducible refine gate_dst (N := 5) rfl ?_); refine box_event ?hg (N := 5) ?hd (cs := #[.int .i64 0, .slice none 0 0, .int .i64 0, .int .i64 0, .int .i64 0]) (t := 41) ?hr ?_; (case hd => rfl); (case hg => rfl); (case hr => first | (go_simp; done) | (go_simp; rfl)); intro gb257 hg w9 hbox hb; have n0_ := Aside0.mk (Kd.S_below (Kd.S_elderB (by (with_reducible repeat (first | apply Kd.S_alloc | apply Kd.S_drewN | apply Kd.S_drew)); exact HO_3.out) gb257 (Nat.le_of_eq hg.symm)) hb); have n1_ := Aside0.mk (below_step (by repeat (first | (with_reducible first | exact HB.out | apply below_alloc | apply pw_below_drewN | apply below_drew1) | exact HB.out)) hb); have n2_ := Aside0.mk (hbox); have n3_ := Aside0.mk ((by rw [hg]; exact (below_size (by repeat (first | (with_reducible first | exact HB.out | apply below_alloc | apply pw_below_drewN | apply below_drew1) | exact HB.out))) : w.heap.size ≤ gb257)); have n4_ := Aside0.mk ((by rw [hg]; exact (below_size (by repeat (first | (with_reducible first | exact HB.out | apply below_alloc | apply pw_below_drewN | apply below_drew1) | exact HB.out))) : w.heap.size ≤ gb257)); clear HO_3; clear HB; have HO_3 := n0_; have HB := n1_; have BK257 := n2_; have GW257 := n3_; have GE257 := n4_; clear n0_ n1_ n2_ n3_ n4_; clear hb hbox hg; have hcz10_0 : w9.cell? ⟨gb257, 0, none⟩ = some (.int .i64 0) := (blk_cell BK257.out 0).trans rfl; have hcz10_1 : w9.cell? ⟨gb257, 1, none⟩ = some (.slice none 0 0) := (blk_cell BK257.out 1).trans rfl; have hcz10_2 : w9.cell? ⟨gb257, 2, none⟩ = some (.int .i64 0) := (blk_cell BK257.out 2).trans rfl; have hcz10_3 : w9.cell? ⟨gb257, 3, none⟩ = some (.int .i64 0) := (blk_cell BK257.out 3).trans rfl; have hcz10_4 : w9.cell? ⟨gb257, 4, none⟩ = some (.int .i64 0) := (blk_cell BK257.out 4).trans rfl; have hfz10_0 := blk_frozen BK257.out 0; have hfz10_1 := blk_frozen BK257.out 1; have hfz10_2 := blk_frozen BK257.out 2; have hfz10_3 := blk_frozen BK257.out 3; have hfz10_4 := blk_frozen BK257.out 4) | ((with_reducible refine gate_dst (N := 16) rfl ?_); refine Kd.R_lit (Kd.int .i64) _ 2 ?hg (N := 16) ?hd (xs := ([] : List Int)) (inner := []) (ok := fun _ => True) (okp := fun _ => True) ?hr ?hp (fun _ hk => hk) trivial (Below.refl _ _) (Nat.le_refl _) (by simp) ?_; (case hd => rfl); (case hg => rfl); (case hr => first | (go_simp; done) | (go_simp; rfl)); (case hp => exact (Reps.none _ _)); intro v259 w11 ho12 hb hg_ hnew_; clear hg_ hnew_; (first | rw [← Ny258.out] at ho12 | (simp only [Int.reduceToNat] at ho12; rw [← Ny258.out] at ho12)); have n0_ := Aside0.mk (Kd.S_elder' (by (with_reducible repeat (first | apply Kd.S_alloc | apply Kd.S_drewN | apply Kd.S_drew)); exact (Kd.S_mono (Kd.S_far (p := ⟨gb257, 4, none⟩) (Kd.S_far (p := ⟨gb257, 3, none⟩) (Kd.S_far (p := ⟨gb257, 2, none⟩) (Kd.S_far (p := ⟨gb257, 1, none⟩) (Kd.S_far (p := ⟨gb257, 0, none⟩) (Kd.S_mono HO_3.out (fun k_ hk => (⟨hk, hk.2⟩ : _ ∧ k_ ≠ gb257))) (fun _ hk => hk.2) (.int .i64 ((rd_T41 l0 x9_1).f0))) (fun _ hk => hk.2) (.slice A256_1 ((rd_T41 l0 x9_1).f1).length c256_1)) (fun _ hk => hk.2) (.int .i64 ((rd_T41 l0 x9_1).f2))) (fun _ hk => hk.2) (.int .i64 ((rd_T41 l0 x9_1).f3))) (fun _ hk => hk.2) (.int .i64 ((rd_T41 l0 x9_1).f4))) (fun _ h_ => h_.1))) (Kd.R_base ho12) hb); have n1_ := Aside0.mk (Kd.R_lower ho12 (below_size (by repeat (first | (with_reducible first | exact HB.out | apply below_alloc | apply pw_below_drewN | apply below_drew1 | refine below_set ?_ GE257.out) | exact HB.out)))); have n2_ := Aside0.mk (blk_below (g := gb257) (o := .cells #[.int .i64 ((rd_T41 l0 x9_1).f0), .slice A256_1 ((rd_T41 l0 x9_1).f1).length c256_1, .int .i64 ((rd_T41 l0 x9_1).f2), .int .i64 ((rd_T41 l0 x9_1).f3), .int .i64 ((rd_T41 l0 x9_1).f4)] 41 (0, 0)) (by (with_reducible repeat (first | refine blk_drewN ?_ _ | refine blk_drew ?_ | refine blk_alloc ?_ _)); refine blk_put (cs := #[.int .i64 ((rd_T41 l0 x9_1).f0), .slice A256_1 ((rd_T41 l0 x9_1).f1).length c256_1, .int .i64 ((rd_T41 l0 x9_1).f2), .int .i64 ((rd_T41 l0 x9_1).f3), .int .i64 0]) ?_ 4 _ rfl; (with_reducible repeat (first | refine blk_drewN ?_ _ | refine blk_drew ?_ | refine blk_alloc ?_ _)); refine blk_put (cs := #[.int .i64 ((rd_T41 l0 x9_1).f0), .slice A256_1 ((rd_T41 l0 x9_1).f1).length c256_1, .int .i64 ((rd_T41 l0 x9_1).f2), .int .i64 0, .int .i64 0]) ?_ 3 _ rfl; (with_reducible repeat (first | refine blk_drewN ?_ _ | refine blk_drew ?_ | refine blk_alloc ?_ _)); refine blk_put (cs := #[.int .i64 ((rd_T41 l0 x9_1).f0), .slice A256_1 ((rd_T41 l0 x9_1).f1).length c256_1, .int .i64 0, .int .i64 0, .int .i64 0]) ?_ 2 _ rfl; (with_reducible repeat (first | refine blk_drewN ?_ _ | refine blk_drew ?_ | refine blk_alloc ?_ _)); refine blk_put (cs := #[.int .i64 ((rd_T41 l0 x9_1).f0), .slice none 0 0, .int .i64 0, .int .i64 0, .int .i64 0]) ?_ 1 _ rfl; (with_reducible repeat (first | refine blk_drewN ?_ _ | refine blk_drew ?_ | refine blk_alloc ?_ _)); refine blk_put (cs := #[.int .i64 0, .slice none 0 0, .int .i64 0, .int .i64 0, .int .i64 0]) ?_ 0 _ rfl; (with_reducible repeat (first | refine blk_drewN ?_ _ | refine blk_drew ?_ | refine blk_alloc ?_ _)); exact BK257.out) hb); have n3_ := Aside0.mk (below_step (by repeat (first | (with_reducible first | exact HB.out | apply below_alloc | apply pw_below_drewN | apply below_drew1 | refine below_set ?_ GE257.out) | exact HB.out)) hb); clear HO_3; clear BK257; clear HB; have HO_3 := n0_; have HO260 := n1_; have BK257 := n2_; have HB := n3_; clear n0_ n1_ n2_ n3_; clear hb ho12; have hcz13_0 : w11.cell? ⟨gb257, 0, none⟩ = some (.int .i64 ((rd_T41 l0 x9_1).f0)) := (blk_cell BK257.out 0).trans rfl; have hcz13_1 : w11.cell? ⟨gb257, 1, none⟩ = some (.slice A256_1 ((rd_T41 l0 x9_1).f1).length c256_1) := (blk_cell BK257.out 1).trans rfl; have hcz13_2 : w11.cell? ⟨gb257, 2, none⟩ = some (.int .i64 ((rd_T41 l0 x9_1).f2)) := (blk_cell BK257.out 2).trans rfl; have hcz13_3 : w11.cell? ⟨gb257, 3, none⟩ = some (.int .i64 ((rd_T41 l0 x9_1).f3)) := (blk_cell BK257.out 3).trans rfl; have hcz13_4 : w11.cell? ⟨gb257, 4, none⟩ = some (.int .i64 ((rd_T41 l0 x9_1).f4)) := (blk_cell BK257.out 4).trans rfl; have hfz13_0 := blk_frozen BK257.out 0; have hfz13_1 := blk_frozen BK257.out 1; have hfz13_2 := blk_frozen BK257.out 2; have hfz13_3 := blk_frozen BK257.out 3; have hfz13_4 := blk_frozen BK257.out 4) | ((with_reducible refine gate_builtin (b := .append) (xs := #[.tmp 16, .tmp 18]) rfl ?_); at_builtin; refine Kd.R_append_rows (Kd.int .i64) (w0 := w) w.heap.size rfl (.tmp 16) (.tmp 18) 26 2 (.int .i64 0) 8 rfl Tryz.underlying26 info2 rfl (by decide) (by omega) v259 y258 ((rd_T41 l0 x9_1).f1) _ _ _ (fun _ => True) (fun _ => False) rfl rfl ?aO ?aR (fun _ _ h => h) (fun _ h => h.elim) ?aF ?aB ?aS ?aL ?_; (case aR => repeat (first | exact (Kd.C_below HR256_1.out HB.out) | (with_reducible refine Kd.C_alloc ?_ _) | (with_reducible refine Kd.C_drewN ?_ _) | (with_reducible refine Kd.C_drew ?_))); (case aB => exact (by repeat (first | (with_reducible first | exact HB.out | apply below_alloc | apply pw_below_drewN | apply below_drew1 | refine below_set ?_ GE257.out) | exact HB.out))); (case aF => exact (fun _ _ => trivial)); (case aO => exact (by (with_reducible repeat (first | apply Kd.R_alloc | apply Kd.R_drewN | apply Kd.R_drew)); exact HO260.out)); (case aS => exact (below_size (by repeat (first | (with_reducible first | exact HB.out | apply below_alloc | apply pw_below_drewN | apply below_drew1 | refine below_set ?_ GE257.out) | exact HB.out)))); (case aL => have := LMc7.out; omega); intro v262 w14 ho hb hg hat; rw [← Ny261.out] at ho; have n0_ := Aside0.mk (Kd.S_after (ok := (fun k_ => k_ ≠ gb257)) (by (with_reducible repeat (first | apply Kd.S_alloc | apply Kd.S_drewN | apply Kd.S_drew)); exact Kd.S_mono HO_3.out (fun _ hk => ⟨hk.1.2, hk.2⟩)) hg hat); have n1_ := Aside0.mk (blk_grown (g := gb257) (o := .cells #[.int .i64 ((rd_T41 l0 x9_1).f0), .slice A256_1 ((rd_T41 l0 x9_1).f1).length c256_1, .int .i64 ((rd_T41 l0 x9_1).f2), .int .i64 ((rd_T41 l0 x9_1).f3), .int .i64 ((rd_T41 l0 x9_1).f4)] 41 (0, 0)) (by (with_reducible repeat (first | refine blk_drewN ?_ _ | refine blk_drew ?_ | refine blk_alloc ?_ _)); exact BK257.out) hg (Kd.R_ne HO260.out BK257.out (by decide))); have n2_ := Aside0.mk (hb); have n3_ := Aside0.mk (ho); clear HO_3; clear BK257; clear HB; clear HO260; have HO_3 := n0_; have BK257 := n1_; have HB := n2_; have HO263 := n3_; clear n0_ n1_ n2_ n3_; clear ho hb hg hat; obtain ⟨Ao15, co15, eo15⟩ := Kd.R_slice HO263.out; subst eo15; have hcz16_0 : w14.cell? ⟨gb257, 0, none⟩ = some (.int .i64 ((rd_T41 l0 x9_1).f0)) := (blk_cell BK257.out 0).trans rfl; have hcz16_1 : w14.cell? ⟨gb257, 1, none⟩ = some (.slice A256_1 ((rd_T41 l0 x9_1).f1).length c256_1) := (blk_cell BK257.out 1).trans rfl; have hcz16_2 : w14.cell? ⟨gb257, 2, none⟩ = some (.int .i64 ((rd_T41 l0 x9_1).f2)) := (blk_cell BK257.out 2).trans rfl; have hcz16_3 : w14.cell? ⟨gb257, 3, none⟩ = some (.int .i64 ((rd_T41 l0 x9_1).f3)) := (blk_cell BK257.out 3).trans rfl; have hcz16_4 : w14.cell? ⟨gb257, 4, none⟩ = some (.int .i64 ((rd_T41 l0 x9_1).f4)) := (blk_cell BK257.out 4).trans rfl; have hfz16_0 := blk_frozen BK257.out 0; have hfz16_1 := blk_frozen BK257.out 1; have hfz16_2 := blk_frozen BK257.out 2; have hfz16_3 := blk_frozen BK257.out 3; have hfz16_4 := blk_frozen BK257.out 4) | ((with_reducible refine gate_store (t := 26) (p := 20) rfl ?_); refine store_event (t := 26) (p := 20) (v := ?vo_w17) (w1 := (w14.setCell ⟨gb257, 1, none⟩ (.slice Ao15 y261.length co15))) ?hg ?ho ?hn ?hr ?_; (case ho => rfl); (case hg => rfl); (case hn => rfl); (case hr => first | (go_simp; done) | (go_simp; rfl)); intro w17 hw; have n0_ : Aside0 (Kd.S k41 41 w17 w.heap.size (fun k_ => some k_ ≠ (.slice Ao15 y261.length co15 : Value).ownBlock ∧ k_ ≠ gb257) u3 x3_1) := ⟨(by rw [hw]; exact (by (with_reducible repeat (first | apply Kd.S_alloc | apply Kd.S_drewN | apply Kd.S_drew)); exact Kd.S_mono (Kd.S_far (p := ⟨gb257, 1, none⟩) (Kd.S_mono HO_3.out (fun k_ hk => (⟨hk, hk.1⟩ : _ ∧ k_ ≠ gb257))) (fun _ hk => hk.2) (.slice Ao15 y261.length co15)) (fun _ hk => ⟨hk.1.2, hk.1.1⟩)))⟩; have n1_ : Aside0 (Kd.R (Kd.int .i64) 2 w17 w.heap.size (fun _ => True) (.slice Ao15 y261.length co15) y261) := ⟨(by rw [hw]; exact (by (with_reducible repeat (first | apply Kd.R_alloc | apply Kd.R_drewN | apply Kd.R_drew)); exact Kd.R_mono (Kd.R_far (p := ⟨gb257, 1, none⟩) (Kd.R_types HO263.out BK257.out (by decide)) (fun _ hk => hk.2) (.slice Ao15 y261.length co15)) (fun _ hk => trivial)))⟩; have n2_ : Aside0 (w17.heap[gb257]? = some (.cells #[.int .i64 ((rd_T41 l0 x9_1).f0), .slice Ao15 y261.length co15, .int .i64 ((rd_T41 l0 x9_1).f2), .int .i64 ((rd_T41 l0 x9_1).f3), .int .i64 ((rd_T41 l0 x9_1).f4)] 41 (0, 0))) := ⟨(by rw [hw]; exact (by (with_reducible repeat (first | refine blk_drewN ?_ _ | refine blk_drew ?_ | refine blk_alloc ?_ _)); refine blk_put (cs := #[.int .i64 ((rd_T41 l0 x9_1).f0), .slice A256_1 ((rd_T41 l0 x9_1).f1).length c256_1, .int .i64 ((rd_T41 l0 x9_1).f2), .int .i64 ((rd_T41 l0 x9_1).f3), .int .i64 ((rd_T41 l0 x9_1).f4)]) ?_ 1 _ rfl; (with_reducible repeat (first | refine blk_drewN ?_ _ | refine blk_drew ?_ | refine blk_alloc ?_ _)); exact BK257.out))⟩; have n3_ : Aside0 (Below w.heap.size w w17) := ⟨(by rw [hw]; exact (by repeat (first | (with_reducible first | exact HB.out | apply below_alloc | apply pw_below_drewN | apply below_drew1 | refine below_set ?_ GE257.out) | exact HB.out)))⟩; clear hw; clear HO_3; clear HO263; clear BK257; clear HB; have HO_3 := n0_; have HO263 := n1_; have BK257 := n2_; have HB := n3_; clear n0_ n1_ n2_ n3_; have hcz18_0 : w17.cell? ⟨gb257, 0, none⟩ = some (.int .i64 ((rd_T41 l0 x9_1).f0)) := (blk_cell BK257.out 0).trans rfl; have hcz18_1 : w17.cell? ⟨gb257, 1, none⟩ = some (.slice Ao15 y261.length co15) := (blk_cell BK257.out 1).trans rfl; have hcz18_2 : w17.cell? ⟨gb257, 2, none⟩ = some (.int .i64 ((rd_T41 l0 x9_1).f2)) := (blk_cell BK257.out 2).trans rfl; have hcz18_3 : w17.cell? ⟨gb257, 3, none⟩ = some (.int .i64 ((rd_T41 l0 x9_1).f3)) := (blk_cell BK257.out 3).trans rfl; have hcz18_4 : w17.cell? ⟨gb257, 4, none⟩ = some (.int .i64 ((rd_T41 l0 x9_1).f4)) := (blk_cell BK257.out 4).trans rfl; have hfz18_0 := blk_frozen BK257.out 0; have hfz18_1 := blk_frozen BK257.out 1; have hfz18_2 := blk_frozen BK257.out 2; have hfz18_3 := blk_frozen BK257.out 3; have hfz18_4 := blk_frozen BK257.out 4) | ((with_reducible refine gate_builtin (b := .append) (xs := #[.tmp 21, .tmp 23]) rfl ?_); at_builtin; refine Kd.S_append k41 (w0 := w) w.heap.size rfl (.tmp 21) (.tmp 23) 24 41 (.agg #[(.int .i64 0), (.slice none 0 0), (.int .i64 0), (.int .i64 0), (.int .i64 0)]) 56 rfl Tryz.underlying24 info41 rfl (by decide) (by omega) u3 x3_1 (⟨(rd_T41 l0 x9_1).f0, y261, (rd_T41 l0 x9_1).f2, (rd_T41 l0 x9_1).f3, (rd_T41 l0 x9_1).f4⟩ : S41) [.int .i64 ((rd_T41 l0 x9_1).f0), .slice Ao15 y261.length co15, .int .i64 ((rd_T41 l0 x9_1).f2), .int .i64 ((rd_T41 l0 x9_1).f3), .int .i64 ((rd_T41 l0 x9_1).f4)] (fun k_ => k_ ≠ gb257) (fun k_ => some k_ = (.slice Ao15 y261.length co15 : Value).ownBlock) rfl rfl ?aP (fun k_ hk_ => ((Kd.R_mono (ok' := fun k_ => ((fun k_ => k_ ≠ gb257)) k_ ∧ some k_ ≠ (u3 : Value).ownBlock) (Kd.R_types (Kd.R_apart' (HO263.out) (Kd.S_typed HO_3.out) (by decide)) BK257.out (by decide)) (fun k_ hk => ⟨hk.2, hk.1.2⟩))).1 k_ hk_.symm) ?aF ?aO ?aB ?aS ?aL ?_; (case aP => exact k41_mkM _ _ _ (⟨(rd_T41 l0 x9_1).f0, y261, (rd_T41 l0 x9_1).f2, (rd_T41 l0 x9_1).f3, (rd_T41 l0 x9_1).f4⟩ : S41) (Kd.R_mono (Kd.R_tight rfl (Kd.R_mono (ok' := fun k_ => ((fun k_ => k_ ≠ gb257)) k_ ∧ some k_ ≠ (u3 : Value).ownBlock) (Kd.R_types (Kd.R_apart' (HO263.out) (Kd.S_typed HO_3.out) (by decide)) BK257.out (by decide)) (fun k_ hk => ⟨hk.2, hk.1.2⟩))) (fun _ h_ => h_))); (case aB => exact (by repeat (first | (with_reducible first | exact HB.out | apply below_alloc | apply pw_below_drewN | apply below_drew1 | refine below_set ?_ GE257.out) | exact HB.out))); (case aF => exact (fun k_ hk => Kd.freshB (g := gb257) (o := .cells #[.int .i64 ((rd_T41 l0 x9_1).f0), .slice Ao15 y261.length co15, .int .i64 ((rd_T41 l0 x9_1).f2), .int .i64 ((rd_T41 l0 x9_1).f3), .int .i64 ((rd_T41 l0 x9_1).f4)] 41 (0, 0)) (by (with_reducible repeat (first | refine blk_drewN ?_ _ | refine blk_drew ?_ | refine blk_alloc ?_ _)); exact BK257.out) k_ hk)); (case aO => exact (by (with_reducible repeat (first | apply Kd.S_alloc | apply Kd.S_drewN | apply Kd.S_drew)); exact Kd.S_mono HO_3.out (fun k_ hk => ⟨hk.2, fun e_ => hk.1 e_⟩))); (case aS => exact (below_size (by repeat (first | (with_reducible first | exact HB.out | apply below_alloc | apply pw_below_drewN | apply below_drew1 | refine below_set ?_ GE257.out) | exact HB.out)))); (case aL => have := LMc8.out; omega); intro v265 w19 ho hb hg hat; rw [← Ny264.out] at ho; have n0_ := Aside0.mk (blk_grown (g := gb257) (o := .cells #[.int .i64 ((rd_T41 l0 x9_1).f0), .slice Ao15 y261.length co15, .int .i64 ((rd_T41 l0 x9_1).f2), .int .i64 ((rd_T41 l0 x9_1).f3), .int .i64 ((rd_T41 l0 x9_1).f4)] 41 (0, 0)) (by (with_reducible repeat (first | refine blk_drewN ?_ _ | refine blk_drew ?_ | refine blk_alloc ?_ _)); exact BK257.out) hg (Kd.S_away HO_3.out (fun _ hk => hk.2))); have n1_ := Aside0.mk (hb); have n2_ := Aside0.mk (ho); clear BK257; clear HB; clear HO_3; clear HO263; have BK257 := n0_; have HB := n1_; have HO266 := n2_; clear n0_ n1_ n2_; clear ho hb hg hat))
                go_roundg k1
                case measure => have := HK1.out; omega
                case rel => exact ⟨(y264), (wrap64 (x9_1 + 1)), (by first | rfl | (simp; done) | (simp [*]; done)), H', ⟨by have := HK1.out; omega⟩, ⟨by (with_reducible repeat (first | apply Kd.S_alloc | apply Kd.S_drewN | apply Kd.S_drew)); exact Kd.S_mono HO266.out (fun _ hk => trivial)⟩, ⟨by repeat (first | (with_reducible first | exact HB.out | apply below_alloc | apply pw_below_drewN | apply below_drew1 | refine below_set ?_ GE257.out) | exact HB.out)⟩⟩
              · rw [if_neg c8] at H
                exact absurd H (by simp)
            · rw [if_neg c7] at H
              exact absurd H (by simp)
          · rw [if_neg c6] at H
            exact absurd H (by simp)
        · rw [if_neg c5] at H
          exact absurd H (by simp)
      · rw [if_neg c4] at H
        have c4b0 : decide (x9_1 < (l0.length : Int)) = false := decide_eq_false c4
        clear c4
        obtain rfl := Option.some.inj H
        go_wp2
        go_ret
        exact ⟨_, by first | rfl | (simp [errW_none, errW_some] <;> rfl) | (simp [*, errW_none, errW_some] <;> rfl), by (with_reducible repeat (first | apply Kd.S_alloc | apply Kd.S_drewN | apply Kd.S_drew)); exact HO_3.out, by repeat (first | (with_reducible first | exact HB.out | apply below_alloc | apply pw_below_drewN | apply below_drew1) | exact HB.out)⟩
/-! ### impl_cloneRules: function 84 -/
def impl_cloneRules.l0 : Nat → List (S41) → List (S41) → Int → Int → Option ((List (S41)))
  | 0, _, _, _, _ => none
  | k + 1, x3, x7, x8, x9 => if x9 < x8 then (if 0 ≤ x9 then (if x9 < (x7.length : Int) then ((impl_cloneRule.f ((rd_T41 x7 x9).f0) ((rd_T41 x7 x9).f1) ((rd_T41 x7 x9).f2) ((rd_T41 x7 x9).f3) ((rd_T41 x7 x9).f4)).bind fun bt272 => (if x3.length < 2513169434916 then (impl_cloneRules.l0 k (x3 ++ [(⟨bt272.1, bt272.2.1, bt272.2.2.1, bt272.2.2.2.1, bt272.2.2.2.2⟩ : S41)]) x7 x8 (wrap64 (x9 + 1))) else (none))) else (none)) else (none)) else (some x3)
def impl_cloneRules.f (k : Nat) (l0 : List (S41)) : Option ((List (S41))) := impl_cloneRules.l0 k (([] : List (S41))) l0 (l0.length : Int) 0
theorem impl_cloneRules.mono_l : ∀ k, (∀ y0 y1 y2 y3, LeO (impl_cloneRules.l0 k y0 y1 y2 y3) (impl_cloneRules.l0 (k + 1) y0 y1 y2 y3))
  | 0 => fun _ _ _ _ r h => by simp [impl_cloneRules.l0] at h
  | k + 1 => by
    have ih0 := impl_cloneRules.mono_l k
    · intro y0 y1 y2 y3
      unfold impl_cloneRules.l0
      repeat' first
      | (with_reducible exact ih0 _ _ _ _)
      | (with_reducible exact LeO.refl _)
      | (with_reducible exact LeO.none _)
      | (with_reducible refine LeO.ite ?_ ?_)
      | (with_reducible refine LeO.bind ?_ (fun _ => ?_))
      | exact ih0 _ _ _ _
      | exact LeO.none _
      | refine LeO.ite ?_ ?_
      | refine LeO.bind ?_ (fun _ => ?_)
theorem impl_cloneRules.mono : ∀ a0 k, LeO (impl_cloneRules.f k a0) (impl_cloneRules.f (k + 1) a0) := by
  intro a0 k
  have ih0 := impl_cloneRules.mono_l k
  unfold impl_cloneRules.f
  repeat' first
      | (with_reducible exact ih0 _ _ _ _)
      | (with_reducible exact LeO.refl _)
      | (with_reducible exact LeO.none _)
      | (with_reducible refine LeO.ite ?_ ?_)
      | (with_reducible refine LeO.bind ?_ (fun _ => ?_))
      | exact ih0 _ _ _ _
      | exact LeO.none _
      | refine LeO.ite ?_ ?_
      | refine LeO.bind ?_ (fun _ => ?_)
set_option maxHeartbeats 8000000 in
set_option maxRecDepth 100000 in
theorem impl_cloneRules.calls (k : Nat) (A0 : Option Addr) (c0 : Nat) (l0 : List (S41)) (r : List (S41)) (w : World) (hr0 : Kd.C k41 w A0 l0.length l0) (hc0 : l0.length ≤ c0) (h : impl_cloneRules.f k l0 = some r) :
    Calls Tryz.prog 84 #[.slice A0 l0.length c0] w fun e w' => ∃ v0_ : Value, e = .returned (v0_) ∧ Kd.S k41 41 w' w.heap.size (fun _ => True) v0_ r ∧ Below w.heap.size w w' := by
  have hu41 := Tryz.underlying41
  have HR0 := Aside0.mk hr0
  have HC0 := Aside0.mk hc0
  clear hr0 hc0
  have HB := Aside0.mk (Below.refl w.heap.size w)
  have H : (impl_cloneRules.l0 k (([] : List (S41))) l0 (l0.length : Int) 0) = some r := h
  clear h
  obtain ⟨y267, hy267⟩ : ∃ y_ : List (S41), y_ = (([] : List (S41))) := ⟨_, rfl⟩
  replace H : (impl_cloneRules.l0 k y267 l0 (l0.length : Int) 0) = some r := by first | (rw [hy267]; with_reducible exact H) | (have H2_ := (Option.bind_some _ _).symm.trans H; rw [hy267]; with_reducible exact H2_) | (have H2_ := (Option.bind_some _ _).symm.trans H; with_reducible exact H2_) | with_reducible exact H | (rw [hy267]; exact H) | exact H
  have Ny267 := Aside0.mk hy267
  clear hy267
  have H' := Aside0.mk H
  clear H
  go_enter Tryz.func84, Tryz.ntmps84
  go_wp2_with (first | ((with_reducible refine gate_dst (N := 6) rfl ?_); refine Kd.S_lit k41 _ 41 ?hg (N := 6) ?hd (xs := ([] : List (S41))) (inner := []) (ok := fun _ => True) (okp := fun _ => True) ?hr ?hp (fun _ hk => hk) trivial (Below.refl _ _) (Nat.le_refl _) (by simp) ?_; (case hd => rfl); (case hg => rfl); (case hr => first | (go_simp; done) | (go_simp; rfl)); (case hp => exact (Reps.none _ _)); intro v268 w2 ho3 hb hg_ hnew_; clear hg_ hnew_; (first | rw [← Ny267.out] at ho3 | (simp only [Int.reduceToNat] at ho3; rw [← Ny267.out] at ho3)); have n0_ := Aside0.mk (Kd.S_lower ho3 (below_size (by repeat (first | (with_reducible first | exact HB.out | apply below_alloc | apply pw_below_drewN | apply below_drew1) | exact HB.out)))); have n1_ := Aside0.mk (below_step (by repeat (first | (with_reducible first | exact HB.out | apply below_alloc | apply pw_below_drewN | apply below_drew1) | exact HB.out)) hb); clear HB; have HO269 := n0_; have HB := n1_; clear n0_ n1_; clear hb ho3))
  go_loopg [3, 9] k (fun kq v3 v9 w' => ∃ (x3_1 : List (S41)) (x9_1 : Int), v9 = .int .i64 x9_1 ∧ Aside0 (impl_cloneRules.l0 kq x3_1 l0 (l0.length : Int) x9_1 = some r) ∧ Aside0 (kq ≤ k) ∧ Aside0 (Kd.S k41 41 w' w.heap.size (fun _ => True) v3 x3_1) ∧ Aside0 (Below w.heap.size w w'))
  case atStart => exact ⟨(y267), (0), (by first | rfl | (simp; done) | (simp [*]; done)), H', ⟨Nat.le_refl _⟩, ⟨by (with_reducible repeat (first | apply Kd.S_alloc | apply Kd.S_drewN | apply Kd.S_drew)); exact HO269.out⟩, ⟨by repeat (first | (with_reducible first | exact HB.out | apply below_alloc | apply pw_below_drewN | apply below_drew1) | exact HB.out)⟩⟩
  case round =>
    clear H'
    try clear p2
    obtain ⟨x3_1, x9_1, rfl, HA, HK1, HO_3, HB⟩ := hrel
    cases gk with
    | zero => exact absurd HA.out (by simp [impl_cloneRules.l0])
    | succ k1 =>
      have H := HA.out
      clear HA
      simp only [impl_cloneRules.l0] at H
      by_cases c4 : x9_1 < (l0.length : Int)
      · rw [if_pos c4] at H
        have c4b0 : decide (x9_1 < (l0.length : Int)) = true := decide_eq_true c4
        clear c4
        by_cases c5 : 0 ≤ x9_1
        · rw [if_pos c5] at H
          have c5b0 : decide (0 ≤ x9_1) = true := decide_eq_true c5
          clear c5
          by_cases c6 : x9_1 < (l0.length : Int)
          · rw [if_pos c6] at H
            have c6b0 : decide (x9_1 < (l0.length : Int)) = true := decide_eq_true c6
            clear c6
            replace H := Option.bind_eq_some_iff.mp H
            obtain ⟨⟨t272, t273, t276, t277, t278⟩, A70, H⟩ := H
            replace H : (if x3_1.length < 2513169434916 then (impl_cloneRules.l0 k1 (x3_1 ++ [(⟨t272, t273, t276, t277, t278⟩ : S41)]) l0 (l0.length : Int) (wrap64 (x9_1 + 1))) else (none)) = some r := H
            have A7 := Aside0.mk A70
            clear A70
            by_cases c8 : x3_1.length < 2513169434916
            · rw [if_pos c8] at H
              have LMc8 := Aside0.mk c8
              clear c8
              obtain ⟨y279, hy279⟩ : ∃ y_ : List (S41), y_ = (x3_1 ++ [(⟨t272, t273, t276, t277, t278⟩ : S41)]) := ⟨_, rfl⟩
              replace H : (impl_cloneRules.l0 k1 y279 l0 (l0.length : Int) (wrap64 (x9_1 + 1))) = some r := by first | (rw [hy279]; with_reducible exact H) | (have H2_ := (Option.bind_some _ _).symm.trans H; rw [hy279]; with_reducible exact H2_) | (have H2_ := (Option.bind_some _ _).symm.trans H; with_reducible exact H2_) | with_reducible exact H | (rw [hy279]; exact H) | exact H
              have Ny279 := Aside0.mk hy279
              clear hy279
              have H' := Aside0.mk H
              clear H
              have p270 : 0 ≤ (x9_1 : Int) := of_decide_eq_true (by first | (with_reducible assumption) | assumption)
              have q270 : x9_1 < (l0.length : Int) := of_decide_eq_true (by first | (with_reducible assumption) | assumption)
              obtain ⟨ad270, A270_1, c270_1, e270, hx270_0, hx270_1, hx270_2, hx270_3, hx270_4, hl270_1, hi270_1⟩ := at_T41 HR0.out x9_1 p270 q270
              cases e270
              replace hx270_0 := (HB.out.cell (World.block_lt_of_cell? w _ hx270_0)).trans hx270_0
              replace hx270_1 := (HB.out.cell (World.block_lt_of_cell? w _ hx270_1)).trans hx270_1
              replace hx270_2 := (HB.out.cell (World.block_lt_of_cell? w _ hx270_2)).trans hx270_2
              replace hx270_3 := (HB.out.cell (World.block_lt_of_cell? w _ hx270_3)).trans hx270_3
              replace hx270_4 := (HB.out.cell (World.block_lt_of_cell? w _ hx270_4)).trans hx270_4
              have HR270_1 := Aside0.mk hi270_1
              have HC270_1 := Aside0.mk hl270_1
              clear hi270_1 hl270_1
              replace p270 := eq_true p270
              replace q270 := eq_true q270
              go_wp2_with (first | ((with_reducible refine gate_dst (N := 5) rfl ?_); refine box_event ?hg (N := 5) ?hd (cs := #[.int .i64 0, .slice none 0 0, .int .i64 0, .int .i64 0, .int .i64 0]) (t := 41) ?hr ?_; (case hd => rfl); (case hg => rfl); (case hr => first | (go_simp; done) | (go_simp; rfl)); intro gb271 hg w9 hbox hb; have n0_ := Aside0.mk (Kd.S_below (Kd.S_elderB (by (with_reducible repeat (first | apply Kd.S_alloc | apply Kd.S_drewN | apply Kd.S_drew)); exact HO_3.out) gb271 (Nat.le_of_eq hg.symm)) hb); have n1_ := Aside0.mk (below_step (by repeat (first | (with_reducible first | exact HB.out | apply below_alloc | apply pw_below_drewN | apply below_drew1) | exact HB.out)) hb); have n2_ := Aside0.mk (hbox); have n3_ := Aside0.mk ((by rw [hg]; exact (below_size (by repeat (first | (with_reducible first | exact HB.out | apply below_alloc | apply pw_below_drewN | apply below_drew1) | exact HB.out))) : w.heap.size ≤ gb271)); have n4_ := Aside0.mk ((by rw [hg]; exact (below_size (by repeat (first | (with_reducible first | exact HB.out | apply below_alloc | apply pw_below_drewN | apply below_drew1) | exact HB.out))) : w.heap.size ≤ gb271)); clear HO_3; clear HB; have HO_3 := n0_; have HB := n1_; have BK271 := n2_; have GW271 := n3_; have GE271 := n4_; clear n0_ n1_ n2_ n3_ n4_; clear hb hbox hg; have hcz10_0 : w9.cell? ⟨gb271, 0, none⟩ = some (.int .i64 0) := (blk_cell BK271.out 0).trans rfl; have hcz10_1 : w9.cell? ⟨gb271, 1, none⟩ = some (.slice none 0 0) := (blk_cell BK271.out 1).trans rfl; have hcz10_2 : w9.cell? ⟨gb271, 2, none⟩ = some (.int .i64 0) := (blk_cell BK271.out 2).trans rfl; have hcz10_3 : w9.cell? ⟨gb271, 3, none⟩ = some (.int .i64 0) := (blk_cell BK271.out 3).trans rfl; have hcz10_4 : w9.cell? ⟨gb271, 4, none⟩ = some (.int .i64 0) := (blk_cell BK271.out 4).trans rfl; have hfz10_0 := blk_frozen BK271.out 0; have hfz10_1 := blk_frozen BK271.out 1; have hfz10_2 := blk_frozen BK271.out 2; have hfz10_3 := blk_frozen BK271.out 3; have hfz10_4 := blk_frozen BK271.out 4) | ((with_reducible refine gate_callee (f := 45) rfl ?_); refine goesL_ (some 15) rfl rfl Tryz.func45 (by kernel_rfl) rfl #[.agg #[.int .i64 ((rd_T41 l0 x9_1).f0), .slice A270_1 ((rd_T41 l0 x9_1).f1).length c270_1, .int .i64 ((rd_T41 l0 x9_1).f2), .int .i64 ((rd_T41 l0 x9_1).f3), .int .i64 ((rd_T41 l0 x9_1).f4)]] rfl (by (try simp only [List.map_toArray, List.map_cons, List.map_nil]); first | done | rfl | (simp only [List.length_drop, List.length_take]; rfl)) ?_; (with_reducible refine (impl_cloneRule.calls ((rd_T41 l0 x9_1).f0) _ _ ((rd_T41 l0 x9_1).f1) ((rd_T41 l0 x9_1).f2) ((rd_T41 l0 x9_1).f3) ((rd_T41 l0 x9_1).f4) t272 t273 t276 t277 t278 _ ?side1 ?side2 A7.out).mono ?_); (case side1 => exact Kd.C_below HR270_1.out (by repeat (first | (with_reducible first | exact HB.out | apply below_alloc | apply pw_below_drewN | apply below_drew1 | refine below_set ?_ GE271.out) | exact HB.out))); (case side2 => exact HC270_1.out); rintro e w11 ⟨v274, rfl, ho0, hb⟩; refine ⟨_, rfl, ?_⟩; have n0_ := Aside0.mk (Kd.S_elder' (by (with_reducible repeat (first | apply Kd.S_alloc | apply Kd.S_drewN | apply Kd.S_drew)); exact (Kd.S_mono (Kd.S_far (p := ⟨gb271, 4, none⟩) (Kd.S_far (p := ⟨gb271, 3, none⟩) (Kd.S_far (p := ⟨gb271, 2, none⟩) (Kd.S_far (p := ⟨gb271, 1, none⟩) (Kd.S_far (p := ⟨gb271, 0, none⟩) (Kd.S_mono HO_3.out (fun k_ hk => (⟨hk, hk.2⟩ : _ ∧ k_ ≠ gb271))) (fun _ hk => hk.2) (.int .i64 ((rd_T41 l0 x9_1).f0))) (fun _ hk => hk.2) (.slice A270_1 ((rd_T41 l0 x9_1).f1).length c270_1)) (fun _ hk => hk.2) (.int .i64 ((rd_T41 l0 x9_1).f2))) (fun _ hk => hk.2) (.int .i64 ((rd_T41 l0 x9_1).f3))) (fun _ hk => hk.2) (.int .i64 ((rd_T41 l0 x9_1).f4))) (fun _ h_ => h_.1))) (Kd.R_base ho0) hb); have n1_ := Aside0.mk (Kd.R_lower ho0 (below_size (by repeat (first | (with_reducible first | exact HB.out | apply below_alloc | apply pw_below_drewN | apply below_drew1 | refine below_set ?_ GE271.out) | exact HB.out)))); have n2_ := Aside0.mk (blk_below (g := gb271) (o := .cells #[.int .i64 ((rd_T41 l0 x9_1).f0), .slice A270_1 ((rd_T41 l0 x9_1).f1).length c270_1, .int .i64 ((rd_T41 l0 x9_1).f2), .int .i64 ((rd_T41 l0 x9_1).f3), .int .i64 ((rd_T41 l0 x9_1).f4)] 41 (0, 0)) (by (with_reducible repeat (first | refine blk_drewN ?_ _ | refine blk_drew ?_ | refine blk_alloc ?_ _)); refine blk_put (cs := #[.int .i64 ((rd_T41 l0 x9_1).f0), .slice A270_1 ((rd_T41 l0 x9_1).f1).length c270_1, .int .i64 ((rd_T41 l0 x9_1).f2), .int .i64 ((rd_T41 l0 x9_1).f3), .int .i64 0]) ?_ 4 _ rfl; (with_reducible repeat (first | refine blk_drewN ?_ _ | refine blk_drew ?_ | refine blk_alloc ?_ _)); refine blk_put (cs := #[.int .i64 ((rd_T41 l0 x9_1).f0), .slice A270_1 ((rd_T41 l0 x9_1).f1).length c270_1, .int .i64 ((rd_T41 l0 x9_1).f2), .int .i64 0, .int .i64 0]) ?_ 3 _ rfl; (with_reducible repeat (first | refine blk_drewN ?_ _ | refine blk_drew ?_ | refine blk_alloc ?_ _)); refine blk_put (cs := #[.int .i64 ((rd_T41 l0 x9_1).f0), .slice A270_1 ((rd_T41 l0 x9_1).f1).length c270_1, .int .i64 0, .int .i64 0, .int .i64 0]) ?_ 2 _ rfl; (with_reducible repeat (first | refine blk_drewN ?_ _ | refine blk_drew ?_ | refine blk_alloc ?_ _)); refine blk_put (cs := #[.int .i64 ((rd_T41 l0 x9_1).f0), .slice none 0 0, .int .i64 0, .int .i64 0, .int .i64 0]) ?_ 1 _ rfl; (with_reducible repeat (first | refine blk_drewN ?_ _ | refine blk_drew ?_ | refine blk_alloc ?_ _)); refine blk_put (cs := #[.int .i64 0, .slice none 0 0, .int .i64 0, .int .i64 0, .int .i64 0]) ?_ 0 _ rfl; (with_reducible repeat (first | refine blk_drewN ?_ _ | refine blk_drew ?_ | refine blk_alloc ?_ _)); exact BK271.out) hb); have n3_ := Aside0.mk (below_step (by repeat (first | (with_reducible first | exact HB.out | apply below_alloc | apply pw_below_drewN | apply below_drew1 | refine below_set ?_ GE271.out) | exact HB.out)) hb); clear HO_3; clear BK271; clear HB; have HO_3 := n0_; have HO275 := n1_; have BK271 := n2_; have HB := n3_; clear n0_ n1_ n2_ n3_; (try clear hb); (try clear hb2); (try clear hk); (try clear hi); (try clear ho0); obtain ⟨Ao13, co13, eo13⟩ := Kd.R_slice HO275.out; subst eo13) | ((with_reducible refine gate_builtin (b := .append) (xs := #[.tmp 13, .tmp 16]) rfl ?_); at_builtin; refine Kd.S_append k41 (w0 := w) w.heap.size rfl (.tmp 13) (.tmp 16) 24 41 (.agg #[(.int .i64 0), (.slice none 0 0), (.int .i64 0), (.int .i64 0), (.int .i64 0)]) 56 rfl Tryz.underlying24 info41 rfl (by decide) (by omega) u3 x3_1 (⟨t272, t273, t276, t277, t278⟩ : S41) [.int .i64 t272, .slice Ao13 t273.length co13, .int .i64 t276, .int .i64 t277, .int .i64 t278] (fun k_ => k_ ≠ gb271) (fun k_ => some k_ = (.slice Ao13 t273.length co13 : Value).ownBlock) rfl rfl ?aP (fun k_ hk_ => ((Kd.R_mono (ok' := fun k_ => ((fun k_ => k_ ≠ gb271)) k_ ∧ some k_ ≠ (u3 : Value).ownBlock) (Kd.R_types (Kd.R_apart' (HO275.out) (Kd.S_typed HO_3.out) (by decide)) BK271.out (by decide)) (fun k_ hk => ⟨hk.2, hk.1.2⟩))).1 k_ hk_.symm) ?aF ?aO ?aB ?aS ?aL ?_; (case aP => exact k41_mkM _ _ _ (⟨t272, t273, t276, t277, t278⟩ : S41) (Kd.R_mono (Kd.R_tight rfl (Kd.R_mono (ok' := fun k_ => ((fun k_ => k_ ≠ gb271)) k_ ∧ some k_ ≠ (u3 : Value).ownBlock) (Kd.R_types (Kd.R_apart' (HO275.out) (Kd.S_typed HO_3.out) (by decide)) BK271.out (by decide)) (fun k_ hk => ⟨hk.2, hk.1.2⟩))) (fun _ h_ => h_))); (case aB => exact (by repeat (first | (with_reducible first | exact HB.out | apply below_alloc | apply pw_below_drewN | apply below_drew1 | refine below_set ?_ GE271.out) | exact HB.out))); (case aF => exact (fun k_ hk => Kd.freshB (g := gb271) (o := .cells #[.int .i64 ((rd_T41 l0 x9_1).f0), .slice A270_1 ((rd_T41 l0 x9_1).f1).length c270_1, .int .i64 ((rd_T41 l0 x9_1).f2), .int .i64 ((rd_T41 l0 x9_1).f3), .int .i64 ((rd_T41 l0 x9_1).f4)] 41 (0, 0)) (by (with_reducible repeat (first | refine blk_drewN ?_ _ | refine blk_drew ?_ | refine blk_alloc ?_ _)); exact BK271.out) k_ hk)); (case aO => exact (by (with_reducible repeat (first | apply Kd.S_alloc | apply Kd.S_drewN | apply Kd.S_drew)); exact Kd.S_mono HO_3.out (fun k_ hk => ⟨hk.1.2, fun e_ => hk.2 e_⟩))); (case aS => exact (below_size (by repeat (first | (with_reducible first | exact HB.out | apply below_alloc | apply pw_below_drewN | apply below_drew1 | refine below_set ?_ GE271.out) | exact HB.out)))); (case aL => have := LMc8.out; omega); intro v280 w12 ho hb hg hat; rw [← Ny279.out] at ho; have n0_ := Aside0.mk (blk_grown (g := gb271) (o := .cells #[.int .i64 ((rd_T41 l0 x9_1).f0), .slice A270_1 ((rd_T41 l0 x9_1).f1).length c270_1, .int .i64 ((rd_T41 l0 x9_1).f2), .int .i64 ((rd_T41 l0 x9_1).f3), .int .i64 ((rd_T41 l0 x9_1).f4)] 41 (0, 0)) (by (with_reducible repeat (first | refine blk_drewN ?_ _ | refine blk_drew ?_ | refine blk_alloc ?_ _)); exact BK271.out) hg (Kd.S_away HO_3.out (fun _ hk => hk.1.2))); have n1_ := Aside0.mk (hb); have n2_ := Aside0.mk (ho); clear BK271; clear HB; clear HO_3; clear HO275; have BK271 := n0_; have HB := n1_; have HO281 := n2_; clear n0_ n1_ n2_; clear ho hb hg hat))
              go_roundg k1
              case measure => have := HK1.out; omega
              case rel => exact ⟨(y279), (wrap64 (x9_1 + 1)), (by first | rfl | (simp; done) | (simp [*]; done)), H', ⟨by have := HK1.out; omega⟩, ⟨by (with_reducible repeat (first | apply Kd.S_alloc | apply Kd.S_drewN | apply Kd.S_drew)); exact Kd.S_mono HO281.out (fun _ hk => trivial)⟩, ⟨by repeat (first | (with_reducible first | exact HB.out | apply below_alloc | apply pw_below_drewN | apply below_drew1 | refine below_set ?_ GE271.out) | exact HB.out)⟩⟩
            · rw [if_neg c8] at H
              exact absurd H (by simp)
          · rw [if_neg c6] at H
            exact absurd H (by simp)
        · rw [if_neg c5] at H
          exact absurd H (by simp)
      · rw [if_neg c4] at H
        have c4b0 : decide (x9_1 < (l0.length : Int)) = false := decide_eq_false c4
        clear c4
        obtain rfl := Option.some.inj H
        go_wp2
        go_ret
        exact ⟨_, by first | rfl | (simp [errW_none, errW_some] <;> rfl) | (simp [*, errW_none, errW_some] <;> rfl), by (with_reducible repeat (first | apply Kd.S_alloc | apply Kd.S_drewN | apply Kd.S_drew)); exact HO_3.out, by repeat (first | (with_reducible first | exact HB.out | apply below_alloc | apply pw_below_drewN | apply below_drew1) | exact HB.out)⟩
/-! ### impl_ValidRule: function 49 -/
def impl_ValidRule.f (k : Nat) (a0_0 : Int) (l0_1 : List Int) (a0_2 : Int) (a0_3 : Int) (a0_4 : Int) : Option (Bool) := (impl_isWord.f a0_0).bind fun t283 => (if t283 = true then ((impl_areWords.f k l0_1 6).bind fun t284 => (if t284 = true then ((impl_isDate.f a0_2).bind fun t285 => (if t285 = true then ((impl_isDate.f a0_3).bind fun t286 => (if t286 = true then (if a0_2 ≤ a0_3 then ((impl_within.f a0_4 0 100).bind fun t287 => (some t287)) else (some false)) else (some false))) else (some false))) else (some false))) else (some false))
theorem impl_ValidRule.mono : ∀ a0 a1 a2 a3 a4 k, LeO (impl_ValidRule.f k a0 a1 a2 a3 a4) (impl_ValidRule.f (k + 1) a0 a1 a2 a3 a4) := by
  intro a0 a1 a2 a3 a4 k
  unfold impl_ValidRule.f
  repeat' first
      | (with_reducible exact impl_areWords.mono _ _ _)
      | (with_reducible exact LeO.refl _)
      | (with_reducible exact LeO.none _)
      | (with_reducible refine LeO.ite ?_ ?_)
      | (with_reducible refine LeO.bind ?_ (fun _ => ?_))
      | exact impl_areWords.mono _ _ _
      | exact LeO.none _
      | refine LeO.ite ?_ ?_
      | refine LeO.bind ?_ (fun _ => ?_)
set_option maxHeartbeats 8000000 in
set_option maxRecDepth 100000 in
theorem impl_ValidRule.calls (k : Nat) (a0_0 : Int) (A0_1 : Option Addr) (c0_1 : Nat) (l0_1 : List Int) (a0_2 : Int) (a0_3 : Int) (a0_4 : Int) (r : Bool) (w : World) (hr0_1 : Kd.C (Kd.int .i64) w A0_1 l0_1.length l0_1) (hc0_1 : l0_1.length ≤ c0_1) (h : impl_ValidRule.f k a0_0 l0_1 a0_2 a0_3 a0_4 = some r) :
    Calls Tryz.prog 49 #[.agg #[.int .i64 a0_0, .slice A0_1 l0_1.length c0_1, .int .i64 a0_2, .int .i64 a0_3, .int .i64 a0_4]] w fun e w' => e = .returned (.bool r) ∧ Below w.heap.size w w' := by
  have hu41 := Tryz.underlying41
  have HR0_1 := Aside0.mk hr0_1
  have HC0_1 := Aside0.mk hc0_1
  clear hr0_1 hc0_1
  have HB := Aside0.mk (Below.refl w.heap.size w)
  have H : ((impl_isWord.f a0_0).bind fun t283 => (if t283 = true then ((impl_areWords.f k l0_1 6).bind fun t284 => (if t284 = true then ((impl_isDate.f a0_2).bind fun t285 => (if t285 = true then ((impl_isDate.f a0_3).bind fun t286 => (if t286 = true then (if a0_2 ≤ a0_3 then ((impl_within.f a0_4 0 100).bind fun t287 => (some t287)) else (some false)) else (some false))) else (some false))) else (some false))) else (some false))) = some r := h
  clear h
  replace H := Option.bind_eq_some_iff.mp H
  obtain ⟨t283, A20, H⟩ := H
  replace H : (if t283 = true then ((impl_areWords.f k l0_1 6).bind fun t284 => (if t284 = true then ((impl_isDate.f a0_2).bind fun t285 => (if t285 = true then ((impl_isDate.f a0_3).bind fun t286 => (if t286 = true then (if a0_2 ≤ a0_3 then ((impl_within.f a0_4 0 100).bind fun t287 => (some t287)) else (some false)) else (some false))) else (some false))) else (some false))) else (some false)) = some r := H
  have A2 := Aside0.mk A20
  clear A20
  by_cases c3 : t283 = true
  · subst c3
    have H1 : ((impl_areWords.f k l0_1 6).bind fun t284 => (if t284 = true then ((impl_isDate.f a0_2).bind fun t285 => (if t285 = true then ((impl_isDate.f a0_3).bind fun t286 => (if t286 = true then (if a0_2 ≤ a0_3 then ((impl_within.f a0_4 0 100).bind fun t287 => (some t287)) else (some false)) else (some false))) else (some false))) else (some false))) = some r := by rw [if_pos rfl] at H; exact H
    clear H
    have H := H1
    clear H1
    replace H := Option.bind_eq_some_iff.mp H
    obtain ⟨t284, A40, H⟩ := H
    replace H : (if t284 = true then ((impl_isDate.f a0_2).bind fun t285 => (if t285 = true then ((impl_isDate.f a0_3).bind fun t286 => (if t286 = true then (if a0_2 ≤ a0_3 then ((impl_within.f a0_4 0 100).bind fun t287 => (some t287)) else (some false)) else (some false))) else (some false))) else (some false)) = some r := H
    have A4 := Aside0.mk A40
    clear A40
    by_cases c5 : t284 = true
    · subst c5
      have H1 : ((impl_isDate.f a0_2).bind fun t285 => (if t285 = true then ((impl_isDate.f a0_3).bind fun t286 => (if t286 = true then (if a0_2 ≤ a0_3 then ((impl_within.f a0_4 0 100).bind fun t287 => (some t287)) else (some false)) else (some false))) else (some false))) = some r := by rw [if_pos rfl] at H; exact H
      clear H
      have H := H1
      clear H1
      replace H := Option.bind_eq_some_iff.mp H
      obtain ⟨t285, A60, H⟩ := H
      replace H : (if t285 = true then ((impl_isDate.f a0_3).bind fun t286 => (if t286 = true then (if a0_2 ≤ a0_3 then ((impl_within.f a0_4 0 100).bind fun t287 => (some t287)) else (some false)) else (some false))) else (some false)) = some r := H
      have A6 := Aside0.mk A60
      clear A60
      by_cases c7 : t285 = true
      · subst c7
        have H1 : ((impl_isDate.f a0_3).bind fun t286 => (if t286 = true then (if a0_2 ≤ a0_3 then ((impl_within.f a0_4 0 100).bind fun t287 => (some t287)) else (some false)) else (some false))) = some r := by rw [if_pos rfl] at H; exact H
        clear H
        have H := H1
        clear H1
        replace H := Option.bind_eq_some_iff.mp H
        obtain ⟨t286, A80, H⟩ := H
        replace H : (if t286 = true then (if a0_2 ≤ a0_3 then ((impl_within.f a0_4 0 100).bind fun t287 => (some t287)) else (some false)) else (some false)) = some r := H
        have A8 := Aside0.mk A80
        clear A80
        by_cases c9 : t286 = true
        · subst c9
          have H1 : (if a0_2 ≤ a0_3 then ((impl_within.f a0_4 0 100).bind fun t287 => (some t287)) else (some false)) = some r := by rw [if_pos rfl] at H; exact H
          clear H
          have H := H1
          clear H1
          by_cases c10 : a0_2 ≤ a0_3
          · rw [if_pos c10] at H
            have c10b0 : decide (a0_2 ≤ a0_3) = true := decide_eq_true c10
            clear c10
            replace H := Option.bind_eq_some_iff.mp H
            obtain ⟨t287, A110, H⟩ := H
            replace H : (some t287) = some r := H
            have A11 := Aside0.mk A110
            clear A110
            obtain rfl := Option.some.inj H
            go_enter Tryz.func49, Tryz.ntmps49
            go_wp2_with (first | ((with_reducible refine gate_dst (N := 1) rfl ?_); refine box_event ?hg (N := 1) ?hd (cs := #[.int .i64 a0_0, .slice A0_1 l0_1.length c0_1, .int .i64 a0_2, .int .i64 a0_3, .int .i64 a0_4]) (t := 41) ?hr ?_; (case hd => rfl); (case hg => rfl); (case hr => first | (go_simp; done) | (go_simp; rfl)); intro gb282 hg w12 hbox hb; have n0_ := Aside0.mk (below_step (by repeat (first | (with_reducible first | exact HB.out | apply below_alloc | apply pw_below_drewN | apply below_drew1) | exact HB.out)) hb); have n1_ := Aside0.mk (hbox); have n2_ := Aside0.mk ((by rw [hg]; exact (below_size (by repeat (first | (with_reducible first | exact HB.out | apply below_alloc | apply pw_below_drewN | apply below_drew1) | exact HB.out))) : w.heap.size ≤ gb282)); have n3_ := Aside0.mk ((by rw [hg]; exact (below_size (by repeat (first | (with_reducible first | exact HB.out | apply below_alloc | apply pw_below_drewN | apply below_drew1) | exact HB.out))) : w.heap.size ≤ gb282)); clear HB; have HB := n0_; have BK282 := n1_; have GW282 := n2_; have GE282 := n3_; clear n0_ n1_ n2_ n3_; clear hb hbox hg; have hcz13_0 : w12.cell? ⟨gb282, 0, none⟩ = some (.int .i64 a0_0) := (blk_cell BK282.out 0).trans rfl; have hcz13_1 : w12.cell? ⟨gb282, 1, none⟩ = some (.slice A0_1 l0_1.length c0_1) := (blk_cell BK282.out 1).trans rfl; have hcz13_2 : w12.cell? ⟨gb282, 2, none⟩ = some (.int .i64 a0_2) := (blk_cell BK282.out 2).trans rfl; have hcz13_3 : w12.cell? ⟨gb282, 3, none⟩ = some (.int .i64 a0_3) := (blk_cell BK282.out 3).trans rfl; have hcz13_4 : w12.cell? ⟨gb282, 4, none⟩ = some (.int .i64 a0_4) := (blk_cell BK282.out 4).trans rfl; have hfz13_0 := blk_frozen BK282.out 0; have hfz13_1 := blk_frozen BK282.out 1; have hfz13_2 := blk_frozen BK282.out 2; have hfz13_3 := blk_frozen BK282.out 3; have hfz13_4 := blk_frozen BK282.out 4) | ((with_reducible refine gate_callee (f := 35) rfl ?_); refine goesL_ (some 5) rfl rfl Tryz.func35 (by kernel_rfl) rfl #[.int .i64 a0_0] rfl (by (try simp only [List.map_toArray, List.map_cons, List.map_nil]); first | done | rfl | (simp only [List.length_drop, List.length_take]; rfl)) ?_; (with_reducible refine (impl_isWord.calls a0_0 true _ A2.out).mono ?_); rintro e w' ⟨rfl, ⟨nd, rfl⟩⟩; refine ⟨_, rfl, ?_⟩) | (go_at_call 76; (with_reducible refine (impl_areWords.calls k _ _ l0_1 6 true _ ?side1 ?side2 A4.out).mono ?_); (case side1 => repeat (first | exact (Kd.C_below HR0_1.out (by repeat (first | (with_reducible first | exact HB.out | apply below_alloc | apply pw_below_drewN | apply below_drew1 | refine below_set ?_ GE282.out) | exact HB.out))) | (with_reducible refine Kd.C_alloc ?_ _) | (with_reducible refine Kd.C_drewN ?_ _) | (with_reducible refine Kd.C_drew ?_))); (case side2 => exact HC0_1.out); rintro e w14 ⟨rfl, hb⟩; have n0_ := Aside0.mk (blk_below (g := gb282) (o := .cells #[.int .i64 a0_0, .slice A0_1 l0_1.length c0_1, .int .i64 a0_2, .int .i64 a0_3, .int .i64 a0_4] 41 (0, 0)) (by (with_reducible repeat (first | refine blk_drewN ?_ _ | refine blk_drew ?_ | refine blk_alloc ?_ _)); exact BK282.out) hb); have n1_ := Aside0.mk (below_step (by repeat (first | (with_reducible first | exact HB.out | apply below_alloc | apply pw_below_drewN | apply below_drew1 | refine below_set ?_ GE282.out) | exact HB.out)) hb); clear BK282; clear HB; have BK282 := n0_; have HB := n1_; clear n0_ n1_; (try clear hb); (try clear hb2); (try clear hk); (try clear hi); have hcz15_0 : w14.cell? ⟨gb282, 0, none⟩ = some (.int .i64 a0_0) := (blk_cell BK282.out 0).trans rfl; have hcz15_1 : w14.cell? ⟨gb282, 1, none⟩ = some (.slice A0_1 l0_1.length c0_1) := (blk_cell BK282.out 1).trans rfl; have hcz15_2 : w14.cell? ⟨gb282, 2, none⟩ = some (.int .i64 a0_2) := (blk_cell BK282.out 2).trans rfl; have hcz15_3 : w14.cell? ⟨gb282, 3, none⟩ = some (.int .i64 a0_3) := (blk_cell BK282.out 3).trans rfl; have hcz15_4 : w14.cell? ⟨gb282, 4, none⟩ = some (.int .i64 a0_4) := (blk_cell BK282.out 4).trans rfl; have hfz15_0 := blk_frozen BK282.out 0; have hfz15_1 := blk_frozen BK282.out 1; have hfz15_2 := blk_frozen BK282.out 2; have hfz15_3 := blk_frozen BK282.out 3; have hfz15_4 := blk_frozen BK282.out 4) | (go_at_call 36; (with_reducible refine (impl_isDate.calls a0_2 true _ A6.out).mono ?_); rintro e w' ⟨rfl, ⟨nd, rfl⟩⟩) | (go_at_call 36; (with_reducible refine (impl_isDate.calls a0_3 true _ A8.out).mono ?_); rintro e w' ⟨rfl, ⟨nd, rfl⟩⟩) | (go_at_call 72; (with_reducible refine (impl_within.calls a0_4 0 100 t287 _ A11.out).mono ?_); rintro e w' ⟨rfl, ⟨nd, rfl⟩⟩))
            go_ret
            exact ⟨by first | rfl | (simp [errW_none, errW_some] <;> rfl) | (simp [*, errW_none, errW_some] <;> rfl), by repeat (first | (with_reducible first | exact HB.out | apply below_alloc | apply pw_below_drewN | apply below_drew1 | refine below_set ?_ GE282.out) | exact HB.out)⟩
          · rw [if_neg c10] at H
            have c10b0 : decide (a0_2 ≤ a0_3) = false := decide_eq_false c10
            clear c10
            obtain rfl := Option.some.inj H
            go_enter Tryz.func49, Tryz.ntmps49
            go_wp2_with (first | ((with_reducible refine gate_dst (N := 1) rfl ?_); refine box_event ?hg (N := 1) ?hd (cs := #[.int .i64 a0_0, .slice A0_1 l0_1.length c0_1, .int .i64 a0_2, .int .i64 a0_3, .int .i64 a0_4]) (t := 41) ?hr ?_; (case hd => rfl); (case hg => rfl); (case hr => first | (go_simp; done) | (go_simp; rfl)); intro gb282 hg w16 hbox hb; have n0_ := Aside0.mk (below_step (by repeat (first | (with_reducible first | exact HB.out | apply below_alloc | apply pw_below_drewN | apply below_drew1) | exact HB.out)) hb); have n1_ := Aside0.mk (hbox); have n2_ := Aside0.mk ((by rw [hg]; exact (below_size (by repeat (first | (with_reducible first | exact HB.out | apply below_alloc | apply pw_below_drewN | apply below_drew1) | exact HB.out))) : w.heap.size ≤ gb282)); have n3_ := Aside0.mk ((by rw [hg]; exact (below_size (by repeat (first | (with_reducible first | exact HB.out | apply below_alloc | apply pw_below_drewN | apply below_drew1) | exact HB.out))) : w.heap.size ≤ gb282)); clear HB; have HB := n0_; have BK282 := n1_; have GW282 := n2_; have GE282 := n3_; clear n0_ n1_ n2_ n3_; clear hb hbox hg; have hcz17_0 : w16.cell? ⟨gb282, 0, none⟩ = some (.int .i64 a0_0) := (blk_cell BK282.out 0).trans rfl; have hcz17_1 : w16.cell? ⟨gb282, 1, none⟩ = some (.slice A0_1 l0_1.length c0_1) := (blk_cell BK282.out 1).trans rfl; have hcz17_2 : w16.cell? ⟨gb282, 2, none⟩ = some (.int .i64 a0_2) := (blk_cell BK282.out 2).trans rfl; have hcz17_3 : w16.cell? ⟨gb282, 3, none⟩ = some (.int .i64 a0_3) := (blk_cell BK282.out 3).trans rfl; have hcz17_4 : w16.cell? ⟨gb282, 4, none⟩ = some (.int .i64 a0_4) := (blk_cell BK282.out 4).trans rfl; have hfz17_0 := blk_frozen BK282.out 0; have hfz17_1 := blk_frozen BK282.out 1; have hfz17_2 := blk_frozen BK282.out 2; have hfz17_3 := blk_frozen BK282.out 3; have hfz17_4 := blk_frozen BK282.out 4) | ((with_reducible refine gate_callee (f := 35) rfl ?_); refine goesL_ (some 5) rfl rfl Tryz.func35 (by kernel_rfl) rfl #[.int .i64 a0_0] rfl (by (try simp only [List.map_toArray, List.map_cons, List.map_nil]); first | done | rfl | (simp only [List.length_drop, List.length_take]; rfl)) ?_; (with_reducible refine (impl_isWord.calls a0_0 true _ A2.out).mono ?_); rintro e w' ⟨rfl, ⟨nd, rfl⟩⟩; refine ⟨_, rfl, ?_⟩) | (go_at_call 76; (with_reducible refine (impl_areWords.calls k _ _ l0_1 6 true _ ?side1 ?side2 A4.out).mono ?_); (case side1 => repeat (first | exact (Kd.C_below HR0_1.out (by repeat (first | (with_reducible first | exact HB.out | apply below_alloc | apply pw_below_drewN | apply below_drew1 | refine below_set ?_ GE282.out) | exact HB.out))) | (with_reducible refine Kd.C_alloc ?_ _) | (with_reducible refine Kd.C_drewN ?_ _) | (with_reducible refine Kd.C_drew ?_))); (case side2 => exact HC0_1.out); rintro e w18 ⟨rfl, hb⟩; have n0_ := Aside0.mk (blk_below (g := gb282) (o := .cells #[.int .i64 a0_0, .slice A0_1 l0_1.length c0_1, .int .i64 a0_2, .int .i64 a0_3, .int .i64 a0_4] 41 (0, 0)) (by (with_reducible repeat (first | refine blk_drewN ?_ _ | refine blk_drew ?_ | refine blk_alloc ?_ _)); exact BK282.out) hb); have n1_ := Aside0.mk (below_step (by repeat (first | (with_reducible first | exact HB.out | apply below_alloc | apply pw_below_drewN | apply below_drew1 | refine below_set ?_ GE282.out) | exact HB.out)) hb); clear BK282; clear HB; have BK282 := n0_; have HB := n1_; clear n0_ n1_; (try clear hb); (try clear hb2); (try clear hk); (try clear hi); have hcz19_0 : w18.cell? ⟨gb282, 0, none⟩ = some (.int .i64 a0_0) := (blk_cell BK282.out 0).trans rfl; have hcz19_1 : w18.cell? ⟨gb282, 1, none⟩ = some (.slice A0_1 l0_1.length c0_1) := (blk_cell BK282.out 1).trans rfl; have hcz19_2 : w18.cell? ⟨gb282, 2, none⟩ = some (.int .i64 a0_2) := (blk_cell BK282.out 2).trans rfl; have hcz19_3 : w18.cell? ⟨gb282, 3, none⟩ = some (.int .i64 a0_3) := (blk_cell BK282.out 3).trans rfl; have hcz19_4 : w18.cell? ⟨gb282, 4, none⟩ = some (.int .i64 a0_4) := (blk_cell BK282.out 4).trans rfl; have hfz19_0 := blk_frozen BK282.out 0; have hfz19_1 := blk_frozen BK282.out 1; have hfz19_2 := blk_frozen BK282.out 2; have hfz19_3 := blk_frozen BK282.out 3; have hfz19_4 := blk_frozen BK282.out 4) | (go_at_call 36; (with_reducible refine (impl_isDate.calls a0_2 true _ A6.out).mono ?_); rintro e w' ⟨rfl, ⟨nd, rfl⟩⟩) | (go_at_call 36; (with_reducible refine (impl_isDate.calls a0_3 true _ A8.out).mono ?_); rintro e w' ⟨rfl, ⟨nd, rfl⟩⟩))
            go_ret
            exact ⟨by first | rfl | (simp [errW_none, errW_some] <;> rfl) | (simp [*, errW_none, errW_some] <;> rfl), by repeat (first | (with_reducible first | exact HB.out | apply below_alloc | apply pw_below_drewN | apply below_drew1 | refine below_set ?_ GE282.out) | exact HB.out)⟩
        · replace c9 := Bool.eq_false_iff.mpr c9
          subst c9
          have H1 : (some false) = some r := by rw [if_neg (show ¬ (false = true) by decide)] at H; exact H
          clear H
          have H := H1
          clear H1
          obtain rfl := Option.some.inj H
          go_enter Tryz.func49, Tryz.ntmps49
          go_wp2_with (first | ((with_reducible refine gate_dst (N := 1) rfl ?_); refine box_event ?hg (N := 1) ?hd (cs := #[.int .i64 a0_0, .slice A0_1 l0_1.length c0_1, .int .i64 a0_2, .int .i64 a0_3, .int .i64 a0_4]) (t := 41) ?hr ?_; (case hd => rfl); (case hg => rfl); (case hr => first | (go_simp; done) | (go_simp; rfl)); intro gb282 hg w20 hbox hb; have n0_ := Aside0.mk (below_step (by repeat (first | (with_reducible first | exact HB.out | apply below_alloc | apply pw_below_drewN | apply below_drew1) | exact HB.out)) hb); have n1_ := Aside0.mk (hbox); have n2_ := Aside0.mk ((by rw [hg]; exact (below_size (by repeat (first | (with_reducible first | exact HB.out | apply below_alloc | apply pw_below_drewN | apply below_drew1) | exact HB.out))) : w.heap.size ≤ gb282)); have n3_ := Aside0.mk ((by rw [hg]; exact (below_size (by repeat (first | (with_reducible first | exact HB.out | apply below_alloc | apply pw_below_drewN | apply below_drew1) | exact HB.out))) : w.heap.size ≤ gb282)); clear HB; have HB := n0_; have BK282 := n1_; have GW282 := n2_; have GE282 := n3_; clear n0_ n1_ n2_ n3_; clear hb hbox hg; have hcz21_0 : w20.cell? ⟨gb282, 0, none⟩ = some (.int .i64 a0_0) := (blk_cell BK282.out 0).trans rfl; have hcz21_1 : w20.cell? ⟨gb282, 1, none⟩ = some (.slice A0_1 l0_1.length c0_1) := (blk_cell BK282.out 1).trans rfl; have hcz21_2 : w20.cell? ⟨gb282, 2, none⟩ = some (.int .i64 a0_2) := (blk_cell BK282.out 2).trans rfl; have hcz21_3 : w20.cell? ⟨gb282, 3, none⟩ = some (.int .i64 a0_3) := (blk_cell BK282.out 3).trans rfl; have hcz21_4 : w20.cell? ⟨gb282, 4, none⟩ = some (.int .i64 a0_4) := (blk_cell BK282.out 4).trans rfl; have hfz21_0 := blk_frozen BK282.out 0; have hfz21_1 := blk_frozen BK282.out 1; have hfz21_2 := blk_frozen BK282.out 2; have hfz21_3 := blk_frozen BK282.out 3; have hfz21_4 := blk_frozen BK282.out 4) | ((with_reducible refine gate_callee (f := 35) rfl ?_); refine goesL_ (some 5) rfl rfl Tryz.func35 (by kernel_rfl) rfl #[.int .i64 a0_0] rfl (by (try simp only [List.map_toArray, List.map_cons, List.map_nil]); first | done | rfl | (simp only [List.length_drop, List.length_take]; rfl)) ?_; (with_reducible refine (impl_isWord.calls a0_0 true _ A2.out).mono ?_); rintro e w' ⟨rfl, ⟨nd, rfl⟩⟩; refine ⟨_, rfl, ?_⟩) | (go_at_call 76; (with_reducible refine (impl_areWords.calls k _ _ l0_1 6 true _ ?side1 ?side2 A4.out).mono ?_); (case side1 => repeat (first | exact (Kd.C_below HR0_1.out (by repeat (first | (with_reducible first | exact HB.out | apply below_alloc | apply pw_below_drewN | apply below_drew1 | refine below_set ?_ GE282.out) | exact HB.out))) | (with_reducible refine Kd.C_alloc ?_ _) | (with_reducible refine Kd.C_drewN ?_ _) | (with_reducible refine Kd.C_drew ?_))); (case side2 => exact HC0_1.out); rintro e w22 ⟨rfl, hb⟩; have n0_ := Aside0.mk (blk_below (g := gb282) (o := .cells #[.int .i64 a0_0, .slice A0_1 l0_1.length c0_1, .int .i64 a0_2, .int .i64 a0_3, .int .i64 a0_4] 41 (0, 0)) (by (with_reducible repeat (first | refine blk_drewN ?_ _ | refine blk_drew ?_ | refine blk_alloc ?_ _)); exact BK282.out) hb); have n1_ := Aside0.mk (below_step (by repeat (first | (with_reducible first | exact HB.out | apply below_alloc | apply pw_below_drewN | apply below_drew1 | refine below_set ?_ GE282.out) | exact HB.out)) hb); clear BK282; clear HB; have BK282 := n0_; have HB := n1_; clear n0_ n1_; (try clear hb); (try clear hb2); (try clear hk); (try clear hi); have hcz23_0 : w22.cell? ⟨gb282, 0, none⟩ = some (.int .i64 a0_0) := (blk_cell BK282.out 0).trans rfl; have hcz23_1 : w22.cell? ⟨gb282, 1, none⟩ = some (.slice A0_1 l0_1.length c0_1) := (blk_cell BK282.out 1).trans rfl; have hcz23_2 : w22.cell? ⟨gb282, 2, none⟩ = some (.int .i64 a0_2) := (blk_cell BK282.out 2).trans rfl; have hcz23_3 : w22.cell? ⟨gb282, 3, none⟩ = some (.int .i64 a0_3) := (blk_cell BK282.out 3).trans rfl; have hcz23_4 : w22.cell? ⟨gb282, 4, none⟩ = some (.int .i64 a0_4) := (blk_cell BK282.out 4).trans rfl; have hfz23_0 := blk_frozen BK282.out 0; have hfz23_1 := blk_frozen BK282.out 1; have hfz23_2 := blk_frozen BK282.out 2; have hfz23_3 := blk_frozen BK282.out 3; have hfz23_4 := blk_frozen BK282.out 4) | (go_at_call 36; (with_reducible refine (impl_isDate.calls a0_2 true _ A6.out).mono ?_); rintro e w' ⟨rfl, ⟨nd, rfl⟩⟩) | (go_at_call 36; (with_reducible refine (impl_isDate.calls a0_3 false _ A8.out).mono ?_); rintro e w' ⟨rfl, ⟨nd, rfl⟩⟩))
          go_ret
          exact ⟨by first | rfl | (simp [errW_none, errW_some] <;> rfl) | (simp [*, errW_none, errW_some] <;> rfl), by repeat (first | (with_reducible first | exact HB.out | apply below_alloc | apply pw_below_drewN | apply below_drew1 | refine below_set ?_ GE282.out) | exact HB.out)⟩
      · replace c7 := Bool.eq_false_iff.mpr c7
        subst c7
        have H1 : (some false) = some r := by rw [if_neg (show ¬ (false = true) by decide)] at H; exact H
        clear H
        have H := H1
        clear H1
        obtain rfl := Option.some.inj H
        go_enter Tryz.func49, Tryz.ntmps49
        go_wp2_with (first | ((with_reducible refine gate_dst (N := 1) rfl ?_); refine box_event ?hg (N := 1) ?hd (cs := #[.int .i64 a0_0, .slice A0_1 l0_1.length c0_1, .int .i64 a0_2, .int .i64 a0_3, .int .i64 a0_4]) (t := 41) ?hr ?_; (case hd => rfl); (case hg => rfl); (case hr => first | (go_simp; done) | (go_simp; rfl)); intro gb282 hg w24 hbox hb; have n0_ := Aside0.mk (below_step (by repeat (first | (with_reducible first | exact HB.out | apply below_alloc | apply pw_below_drewN | apply below_drew1) | exact HB.out)) hb); have n1_ := Aside0.mk (hbox); have n2_ := Aside0.mk ((by rw [hg]; exact (below_size (by repeat (first | (with_reducible first | exact HB.out | apply below_alloc | apply pw_below_drewN | apply below_drew1) | exact HB.out))) : w.heap.size ≤ gb282)); have n3_ := Aside0.mk ((by rw [hg]; exact (below_size (by repeat (first | (with_reducible first | exact HB.out | apply below_alloc | apply pw_below_drewN | apply below_drew1) | exact HB.out))) : w.heap.size ≤ gb282)); clear HB; have HB := n0_; have BK282 := n1_; have GW282 := n2_; have GE282 := n3_; clear n0_ n1_ n2_ n3_; clear hb hbox hg; have hcz25_0 : w24.cell? ⟨gb282, 0, none⟩ = some (.int .i64 a0_0) := (blk_cell BK282.out 0).trans rfl; have hcz25_1 : w24.cell? ⟨gb282, 1, none⟩ = some (.slice A0_1 l0_1.length c0_1) := (blk_cell BK282.out 1).trans rfl; have hcz25_2 : w24.cell? ⟨gb282, 2, none⟩ = some (.int .i64 a0_2) := (blk_cell BK282.out 2).trans rfl; have hcz25_3 : w24.cell? ⟨gb282, 3, none⟩ = some (.int .i64 a0_3) := (blk_cell BK282.out 3).trans rfl; have hcz25_4 : w24.cell? ⟨gb282, 4, none⟩ = some (.int .i64 a0_4) := (blk_cell BK282.out 4).trans rfl; have hfz25_0 := blk_frozen BK282.out 0; have hfz25_1 := blk_frozen BK282.out 1; have hfz25_2 := blk_frozen BK282.out 2; have hfz25_3 := blk_frozen BK282.out 3; have hfz25_4 := blk_frozen BK282.out 4) | ((with_reducible refine gate_callee (f := 35) rfl ?_); refine goesL_ (some 5) rfl rfl Tryz.func35 (by kernel_rfl) rfl #[.int .i64 a0_0] rfl (by (try simp only [List.map_toArray, List.map_cons, List.map_nil]); first | done | rfl | (simp only [List.length_drop, List.length_take]; rfl)) ?_; (with_reducible refine (impl_isWord.calls a0_0 true _ A2.out).mono ?_); rintro e w' ⟨rfl, ⟨nd, rfl⟩⟩; refine ⟨_, rfl, ?_⟩) | (go_at_call 76; (with_reducible refine (impl_areWords.calls k _ _ l0_1 6 true _ ?side1 ?side2 A4.out).mono ?_); (case side1 => repeat (first | exact (Kd.C_below HR0_1.out (by repeat (first | (with_reducible first | exact HB.out | apply below_alloc | apply pw_below_drewN | apply below_drew1 | refine below_set ?_ GE282.out) | exact HB.out))) | (with_reducible refine Kd.C_alloc ?_ _) | (with_reducible refine Kd.C_drewN ?_ _) | (with_reducible refine Kd.C_drew ?_))); (case side2 => exact HC0_1.out); rintro e w26 ⟨rfl, hb⟩; have n0_ := Aside0.mk (blk_below (g := gb282) (o := .cells #[.int .i64 a0_0, .slice A0_1 l0_1.length c0_1, .int .i64 a0_2, .int .i64 a0_3, .int .i64 a0_4] 41 (0, 0)) (by (with_reducible repeat (first | refine blk_drewN ?_ _ | refine blk_drew ?_ | refine blk_alloc ?_ _)); exact BK282.out) hb); have n1_ := Aside0.mk (below_step (by repeat (first | (with_reducible first | exact HB.out | apply below_alloc | apply pw_below_drewN | apply below_drew1 | refine below_set ?_ GE282.out) | exact HB.out)) hb); clear BK282; clear HB; have BK282 := n0_; have HB := n1_; clear n0_ n1_; (try clear hb); (try clear hb2); (try clear hk); (try clear hi); have hcz27_0 : w26.cell? ⟨gb282, 0, none⟩ = some (.int .i64 a0_0) := (blk_cell BK282.out 0).trans rfl; have hcz27_1 : w26.cell? ⟨gb282, 1, none⟩ = some (.slice A0_1 l0_1.length c0_1) := (blk_cell BK282.out 1).trans rfl; have hcz27_2 : w26.cell? ⟨gb282, 2, none⟩ = some (.int .i64 a0_2) := (blk_cell BK282.out 2).trans rfl; have hcz27_3 : w26.cell? ⟨gb282, 3, none⟩ = some (.int .i64 a0_3) := (blk_cell BK282.out 3).trans rfl; have hcz27_4 : w26.cell? ⟨gb282, 4, none⟩ = some (.int .i64 a0_4) := (blk_cell BK282.out 4).trans rfl; have hfz27_0 := blk_frozen BK282.out 0; have hfz27_1 := blk_frozen BK282.out 1; have hfz27_2 := blk_frozen BK282.out 2; have hfz27_3 := blk_frozen BK282.out 3; have hfz27_4 := blk_frozen BK282.out 4) | (go_at_call 36; (with_reducible refine (impl_isDate.calls a0_2 false _ A6.out).mono ?_); rintro e w' ⟨rfl, ⟨nd, rfl⟩⟩))
        go_ret
        exact ⟨by first | rfl | (simp [errW_none, errW_some] <;> rfl) | (simp [*, errW_none, errW_some] <;> rfl), by repeat (first | (with_reducible first | exact HB.out | apply below_alloc | apply pw_below_drewN | apply below_drew1 | refine below_set ?_ GE282.out) | exact HB.out)⟩
    · replace c5 := Bool.eq_false_iff.mpr c5
      subst c5
      have H1 : (some false) = some r := by rw [if_neg (show ¬ (false = true) by decide)] at H; exact H
      clear H
      have H := H1
      clear H1
      obtain rfl := Option.some.inj H
      go_enter Tryz.func49, Tryz.ntmps49
      go_wp2_with (first | ((with_reducible refine gate_dst (N := 1) rfl ?_); refine box_event ?hg (N := 1) ?hd (cs := #[.int .i64 a0_0, .slice A0_1 l0_1.length c0_1, .int .i64 a0_2, .int .i64 a0_3, .int .i64 a0_4]) (t := 41) ?hr ?_; (case hd => rfl); (case hg => rfl); (case hr => first | (go_simp; done) | (go_simp; rfl)); intro gb282 hg w28 hbox hb; have n0_ := Aside0.mk (below_step (by repeat (first | (with_reducible first | exact HB.out | apply below_alloc | apply pw_below_drewN | apply below_drew1) | exact HB.out)) hb); have n1_ := Aside0.mk (hbox); have n2_ := Aside0.mk ((by rw [hg]; exact (below_size (by repeat (first | (with_reducible first | exact HB.out | apply below_alloc | apply pw_below_drewN | apply below_drew1) | exact HB.out))) : w.heap.size ≤ gb282)); have n3_ := Aside0.mk ((by rw [hg]; exact (below_size (by repeat (first | (with_reducible first | exact HB.out | apply below_alloc | apply pw_below_drewN | apply below_drew1) | exact HB.out))) : w.heap.size ≤ gb282)); clear HB; have HB := n0_; have BK282 := n1_; have GW282 := n2_; have GE282 := n3_; clear n0_ n1_ n2_ n3_; clear hb hbox hg; have hcz29_0 : w28.cell? ⟨gb282, 0, none⟩ = some (.int .i64 a0_0) := (blk_cell BK282.out 0).trans rfl; have hcz29_1 : w28.cell? ⟨gb282, 1, none⟩ = some (.slice A0_1 l0_1.length c0_1) := (blk_cell BK282.out 1).trans rfl; have hcz29_2 : w28.cell? ⟨gb282, 2, none⟩ = some (.int .i64 a0_2) := (blk_cell BK282.out 2).trans rfl; have hcz29_3 : w28.cell? ⟨gb282, 3, none⟩ = some (.int .i64 a0_3) := (blk_cell BK282.out 3).trans rfl; have hcz29_4 : w28.cell? ⟨gb282, 4, none⟩ = some (.int .i64 a0_4) := (blk_cell BK282.out 4).trans rfl; have hfz29_0 := blk_frozen BK282.out 0; have hfz29_1 := blk_frozen BK282.out 1; have hfz29_2 := blk_frozen BK282.out 2; have hfz29_3 := blk_frozen BK282.out 3; have hfz29_4 := blk_frozen BK282.out 4) | ((with_reducible refine gate_callee (f := 35) rfl ?_); refine goesL_ (some 5) rfl rfl Tryz.func35 (by kernel_rfl) rfl #[.int .i64 a0_0] rfl (by (try simp only [List.map_toArray, List.map_cons, List.map_nil]); first | done | rfl | (simp only [List.length_drop, List.length_take]; rfl)) ?_; (with_reducible refine (impl_isWord.calls a0_0 true _ A2.out).mono ?_); rintro e w' ⟨rfl, ⟨nd, rfl⟩⟩; refine ⟨_, rfl, ?_⟩) | (go_at_call 76; (with_reducible refine (impl_areWords.calls k _ _ l0_1 6 false _ ?side1 ?side2 A4.out).mono ?_); (case side1 => repeat (first | exact (Kd.C_below HR0_1.out (by repeat (first | (with_reducible first | exact HB.out | apply below_alloc | apply pw_below_drewN | apply below_drew1 | refine below_set ?_ GE282.out) | exact HB.out))) | (with_reducible refine Kd.C_alloc ?_ _) | (with_reducible refine Kd.C_drewN ?_ _) | (with_reducible refine Kd.C_drew ?_))); (case side2 => exact HC0_1.out); rintro e w30 ⟨rfl, hb⟩; have n0_ := Aside0.mk (blk_below (g := gb282) (o := .cells #[.int .i64 a0_0, .slice A0_1 l0_1.length c0_1, .int .i64 a0_2, .int .i64 a0_3, .int .i64 a0_4] 41 (0, 0)) (by (with_reducible repeat (first | refine blk_drewN ?_ _ | refine blk_drew ?_ | refine blk_alloc ?_ _)); exact BK282.out) hb); have n1_ := Aside0.mk (below_step (by repeat (first | (with_reducible first | exact HB.out | apply below_alloc | apply pw_below_drewN | apply below_drew1 | refine below_set ?_ GE282.out) | exact HB.out)) hb); clear BK282; clear HB; have BK282 := n0_; have HB := n1_; clear n0_ n1_; (try clear hb); (try clear hb2); (try clear hk); (try clear hi)))
      go_ret
      exact ⟨by first | rfl | (simp [errW_none, errW_some] <;> rfl) | (simp [*, errW_none, errW_some] <;> rfl), by repeat (first | (with_reducible first | exact HB.out | apply below_alloc | apply pw_below_drewN | apply below_drew1 | refine below_set ?_ GE282.out) | exact HB.out)⟩
  · replace c3 := Bool.eq_false_iff.mpr c3
    subst c3
    have H1 : (some false) = some r := by rw [if_neg (show ¬ (false = true) by decide)] at H; exact H
    clear H
    have H := H1
    clear H1
    obtain rfl := Option.some.inj H
    go_enter Tryz.func49, Tryz.ntmps49
    go_wp2_with (first | ((with_reducible refine gate_dst (N := 1) rfl ?_); refine box_event ?hg (N := 1) ?hd (cs := #[.int .i64 a0_0, .slice A0_1 l0_1.length c0_1, .int .i64 a0_2, .int .i64 a0_3, .int .i64 a0_4]) (t := 41) ?hr ?_; (case hd => rfl); (case hg => rfl); (case hr => first | (go_simp; done) | (go_simp; rfl)); intro gb282 hg w31 hbox hb; have n0_ := Aside0.mk (below_step (by repeat (first | (with_reducible first | exact HB.out | apply below_alloc | apply pw_below_drewN | apply below_drew1) | exact HB.out)) hb); have n1_ := Aside0.mk (hbox); have n2_ := Aside0.mk ((by rw [hg]; exact (below_size (by repeat (first | (with_reducible first | exact HB.out | apply below_alloc | apply pw_below_drewN | apply below_drew1) | exact HB.out))) : w.heap.size ≤ gb282)); have n3_ := Aside0.mk ((by rw [hg]; exact (below_size (by repeat (first | (with_reducible first | exact HB.out | apply below_alloc | apply pw_below_drewN | apply below_drew1) | exact HB.out))) : w.heap.size ≤ gb282)); clear HB; have HB := n0_; have BK282 := n1_; have GW282 := n2_; have GE282 := n3_; clear n0_ n1_ n2_ n3_; clear hb hbox hg; have hcz32_0 : w31.cell? ⟨gb282, 0, none⟩ = some (.int .i64 a0_0) := (blk_cell BK282.out 0).trans rfl; have hcz32_1 : w31.cell? ⟨gb282, 1, none⟩ = some (.slice A0_1 l0_1.length c0_1) := (blk_cell BK282.out 1).trans rfl; have hcz32_2 : w31.cell? ⟨gb282, 2, none⟩ = some (.int .i64 a0_2) := (blk_cell BK282.out 2).trans rfl; have hcz32_3 : w31.cell? ⟨gb282, 3, none⟩ = some (.int .i64 a0_3) := (blk_cell BK282.out 3).trans rfl; have hcz32_4 : w31.cell? ⟨gb282, 4, none⟩ = some (.int .i64 a0_4) := (blk_cell BK282.out 4).trans rfl; have hfz32_0 := blk_frozen BK282.out 0; have hfz32_1 := blk_frozen BK282.out 1; have hfz32_2 := blk_frozen BK282.out 2; have hfz32_3 := blk_frozen BK282.out 3; have hfz32_4 := blk_frozen BK282.out 4) | ((with_reducible refine gate_callee (f := 35) rfl ?_); refine goesL_ (some 5) rfl rfl Tryz.func35 (by kernel_rfl) rfl #[.int .i64 a0_0] rfl (by (try simp only [List.map_toArray, List.map_cons, List.map_nil]); first | done | rfl | (simp only [List.length_drop, List.length_take]; rfl)) ?_; (with_reducible refine (impl_isWord.calls a0_0 false _ A2.out).mono ?_); rintro e w' ⟨rfl, ⟨nd, rfl⟩⟩; refine ⟨_, rfl, ?_⟩))
    go_ret
    exact ⟨by first | rfl | (simp [errW_none, errW_some] <;> rfl) | (simp [*, errW_none, errW_some] <;> rfl), by repeat (first | (with_reducible first | exact HB.out | apply below_alloc | apply pw_below_drewN | apply below_drew1 | refine below_set ?_ GE282.out) | exact HB.out)⟩
/-! ### slices_Index_int_int: function 106 -/
def slices_Index_int_int.l0 : Nat → List Int → Int → Int → Int → Option (Int)
  | 0, _, _, _, _ => none
  | k + 1, x0, x1, x7, x8 => if x8 < x7 then (if 0 ≤ x8 then (if x8 < (x0.length : Int) then (if x1 = (rd x0 x8) then (some x8) else (slices_Index_int_int.l0 k x0 x1 x7 (wrap64 (x8 + 1)))) else (none)) else (none)) else (some (-1))
def slices_Index_int_int.f (k : Nat) (l0 : List Int) (a1 : Int) : Option (Int) := slices_Index_int_int.l0 k l0 a1 (l0.length : Int) 0
theorem slices_Index_int_int.mono_l : ∀ k, (∀ y0 y1 y2 y3, LeO (slices_Index_int_int.l0 k y0 y1 y2 y3) (slices_Index_int_int.l0 (k + 1) y0 y1 y2 y3))
  | 0 => fun _ _ _ _ r h => by simp [slices_Index_int_int.l0] at h
  | k + 1 => by
    have ih0 := slices_Index_int_int.mono_l k
    · intro y0 y1 y2 y3
      unfold slices_Index_int_int.l0
      repeat' first
      | (with_reducible exact ih0 _ _ _ _)
      | (with_reducible exact LeO.refl _)
      | (with_reducible exact LeO.none _)
      | (with_reducible refine LeO.ite ?_ ?_)
      | (with_reducible refine LeO.bind ?_ (fun _ => ?_))
      | exact ih0 _ _ _ _
      | exact LeO.none _
      | refine LeO.ite ?_ ?_
      | refine LeO.bind ?_ (fun _ => ?_)
theorem slices_Index_int_int.mono : ∀ a0 a1 k, LeO (slices_Index_int_int.f k a0 a1) (slices_Index_int_int.f (k + 1) a0 a1) := by
  intro a0 a1 k
  have ih0 := slices_Index_int_int.mono_l k
  unfold slices_Index_int_int.f
  repeat' first
      | (with_reducible exact ih0 _ _ _ _)
      | (with_reducible exact LeO.refl _)
      | (with_reducible exact LeO.none _)
      | (with_reducible refine LeO.ite ?_ ?_)
      | (with_reducible refine LeO.bind ?_ (fun _ => ?_))
      | exact ih0 _ _ _ _
      | exact LeO.none _
      | refine LeO.ite ?_ ?_
      | refine LeO.bind ?_ (fun _ => ?_)
set_option maxHeartbeats 8000000 in
set_option maxRecDepth 100000 in
theorem slices_Index_int_int.calls (k : Nat) (A0 : Option Addr) (c0 : Nat) (l0 : List Int) (a1 : Int) (r : Int) (w : World) (hr0 : Kd.C (Kd.int .i64) w A0 l0.length l0) (hc0 : l0.length ≤ c0) (h : slices_Index_int_int.f k l0 a1 = some r) :
    Calls Tryz.prog 106 #[.slice A0 l0.length c0, .int .i64 a1] w fun e w' => e = .returned (.int .i64 r) ∧ Drawn0 w w' := by
  have HR0 := Aside0.mk hr0
  have HC0 := Aside0.mk hc0
  clear hr0 hc0
  have H : (slices_Index_int_int.l0 k l0 a1 (l0.length : Int) 0) = some r := h
  clear h
  have H' := Aside0.mk H
  clear H
  go_enter Tryz.func106, Tryz.ntmps106
  go_wp2
  go_loopg [8] k (fun kq v8 w' => ∃ (x8_1 : Int), v8 = .int .i64 x8_1 ∧ Aside0 (slices_Index_int_int.l0 kq l0 a1 (l0.length : Int) x8_1 = some r) ∧ Aside0 (kq ≤ k) ∧ Drawn0 w w')
  case atStart => exact ⟨(0), (by first | rfl | (simp; done) | (simp [*]; done)), H', ⟨Nat.le_refl _⟩, by repeat (first | exact Drawn0.refl _ | apply Drawn0.step)⟩
  case round =>
    clear H'
    try clear c1
    try clear p2
    obtain ⟨x8_1, rfl, HA, HK1, ⟨m1, rfl⟩⟩ := hrel
    cases gk with
    | zero => exact absurd HA.out (by simp [slices_Index_int_int.l0])
    | succ k1 =>
      have H := HA.out
      clear HA
      simp only [slices_Index_int_int.l0] at H
      by_cases c3 : x8_1 < (l0.length : Int)
      · rw [if_pos c3] at H
        have c3b0 : decide (x8_1 < (l0.length : Int)) = true := decide_eq_true c3
        clear c3
        by_cases c4 : 0 ≤ x8_1
        · rw [if_pos c4] at H
          have c4b0 : decide (0 ≤ x8_1) = true := decide_eq_true c4
          clear c4
          by_cases c5 : x8_1 < (l0.length : Int)
          · rw [if_pos c5] at H
            have c5b0 : decide (x8_1 < (l0.length : Int)) = true := decide_eq_true c5
            clear c5
            by_cases c6 : a1 = (rd l0 x8_1)
            · rw [if_pos c6] at H
              have c6b0 : (a1 == (rd l0 x8_1)) = true := beq_iff_eq.mpr c6
              have c6b1 : (a1 != (rd l0 x8_1)) = false := bne_eq_false_iff_eq.mpr c6
              clear c6
              obtain rfl := Option.some.inj H
              have p288 : 0 ≤ (x8_1 : Int) := of_decide_eq_true (by first | (with_reducible assumption) | assumption)
              have q288 : x8_1 < (l0.length : Int) := of_decide_eq_true (by first | (with_reducible assumption) | assumption)
              obtain ⟨ad288, e288, hx288_0⟩ := Kd.at_int HR0.out x8_1 p288 q288
              cases e288
              replace p288 := eq_true p288
              replace q288 := eq_true q288
              go_wp2
              go_ret
              exact ⟨by first | rfl | (simp; done) | (simp [*]; done), by repeat (first | exact Drawn0.refl _ | apply Drawn0.step)⟩
            · rw [if_neg c6] at H
              have c6b0 : (a1 == (rd l0 x8_1)) = false := beq_eq_false_iff_ne.mpr c6
              have c6b1 : (a1 != (rd l0 x8_1)) = true := bne_iff_ne.mpr c6
              have H' := Aside0.mk H
              clear H
              have p288 : 0 ≤ (x8_1 : Int) := of_decide_eq_true (by first | (with_reducible assumption) | assumption)
              have q288 : x8_1 < (l0.length : Int) := of_decide_eq_true (by first | (with_reducible assumption) | assumption)
              obtain ⟨ad288, e288, hx288_0⟩ := Kd.at_int HR0.out x8_1 p288 q288
              cases e288
              replace p288 := eq_true p288
              replace q288 := eq_true q288
              go_wp2
              go_roundg k1
              case measure => have := HK1.out; omega
              case rel => exact ⟨(wrap64 (x8_1 + 1)), (by first | rfl | (simp; done) | (simp [*]; done)), H', ⟨by have := HK1.out; omega⟩, by repeat (first | exact Drawn0.refl _ | apply Drawn0.step)⟩
          · rw [if_neg c5] at H
            exact absurd H (by simp)
        · rw [if_neg c4] at H
          exact absurd H (by simp)
      · rw [if_neg c3] at H
        have c3b0 : decide (x8_1 < (l0.length : Int)) = false := decide_eq_false c3
        clear c3
        obtain rfl := Option.some.inj H
        go_wp2
        go_ret
        exact ⟨by first | rfl | (simp; done) | (simp [*]; done), by repeat (first | exact Drawn0.refl _ | apply Drawn0.step)⟩
/-! ### slices_Contains_int_int: function 85 -/
def slices_Contains_int_int.f (k : Nat) (l0 : List Int) (a1 : Int) : Option (Bool) := (slices_Index_int_int.f k l0 a1).bind fun t289 => (some (decide (t289 ≥ 0)))
theorem slices_Contains_int_int.mono : ∀ a0 a1 k, LeO (slices_Contains_int_int.f k a0 a1) (slices_Contains_int_int.f (k + 1) a0 a1) := by
  intro a0 a1 k
  unfold slices_Contains_int_int.f
  repeat' first
      | (with_reducible exact slices_Index_int_int.mono _ _ _)
      | (with_reducible exact LeO.refl _)
      | (with_reducible exact LeO.none _)
      | (with_reducible refine LeO.ite ?_ ?_)
      | (with_reducible refine LeO.bind ?_ (fun _ => ?_))
      | exact slices_Index_int_int.mono _ _ _
      | exact LeO.none _
      | refine LeO.ite ?_ ?_
      | refine LeO.bind ?_ (fun _ => ?_)
set_option maxHeartbeats 8000000 in
set_option maxRecDepth 100000 in
theorem slices_Contains_int_int.calls (k : Nat) (A0 : Option Addr) (c0 : Nat) (l0 : List Int) (a1 : Int) (r : Bool) (w : World) (hr0 : Kd.C (Kd.int .i64) w A0 l0.length l0) (hc0 : l0.length ≤ c0) (h : slices_Contains_int_int.f k l0 a1 = some r) :
    Calls Tryz.prog 85 #[.slice A0 l0.length c0, .int .i64 a1] w fun e w' => e = .returned (.bool r) ∧ Drawn0 w w' := by
  have HR0 := Aside0.mk hr0
  have HC0 := Aside0.mk hc0
  clear hr0 hc0
  have H : ((slices_Index_int_int.f k l0 a1).bind fun t289 => (some (decide (t289 ≥ 0)))) = some r := h
  clear h
  replace H := Option.bind_eq_some_iff.mp H
  obtain ⟨t289, A30, H⟩ := H
  replace H : (some (decide (t289 ≥ 0))) = some r := H
  have A3 := Aside0.mk A30
  clear A30
  obtain rfl := Option.some.inj H
  go_enter Tryz.func85, Tryz.ntmps85
  go_wp2_with (first | ((with_reducible refine gate_callee (f := 106) rfl ?_); refine goesL_ (some 7) rfl rfl Tryz.func106 (by kernel_rfl) rfl #[.slice A0 l0.length c0, .int .i64 a1] rfl (by (try simp only [List.map_toArray, List.map_cons, List.map_nil]); first | done | rfl | (simp only [List.length_drop, List.length_take]; rfl)) ?_; (with_reducible refine (slices_Index_int_int.calls k _ _ l0 a1 t289 _ ?side1 ?side2 A3.out).mono ?_); (case side1 => repeat (first | exact HR0.out | (with_reducible refine Kd.C_alloc ?_ _) | (with_reducible refine Kd.C_drewN ?_ _) | (with_reducible refine Kd.C_drew ?_))); (case side2 => exact HC0.out); rintro e w' ⟨rfl, ⟨nd, rfl⟩⟩; refine ⟨_, rfl, ?_⟩))
  go_ret
  exact ⟨by first | rfl | (simp; done) | (simp [*]; done), by repeat (first | exact Drawn0.refl _ | apply Drawn0.step)⟩
-- NOT PRINTED: function 50 (impl_court_taken)
/-! ### spec_l00Has: function 63 -/
def spec_l00Has.l0 : Nat → List Int → Int → Int → Option (Bool)
  | 0, _, _, _ => none
  | k + 1, x0, x1, x5 => if x5 < (x0.length : Int) then (if 0 ≤ x5 then (if (rd x0 x5) = x1 then (some true) else (spec_l00Has.l0 k x0 x1 (wrap64 (x5 + 1)))) else (none)) else (some false)
def spec_l00Has.f (k : Nat) (l0 : List Int) (a1 : Int) : Option (Bool) := spec_l00Has.l0 k l0 a1 0
theorem spec_l00Has.mono_l : ∀ k, (∀ y0 y1 y2, LeO (spec_l00Has.l0 k y0 y1 y2) (spec_l00Has.l0 (k + 1) y0 y1 y2))
  | 0 => fun _ _ _ r h => by simp [spec_l00Has.l0] at h
  | k + 1 => by
    have ih0 := spec_l00Has.mono_l k
    · intro y0 y1 y2
      unfold spec_l00Has.l0
      repeat' first
      | (with_reducible exact ih0 _ _ _)
      | (with_reducible exact LeO.refl _)
      | (with_reducible exact LeO.none _)
      | (with_reducible refine LeO.ite ?_ ?_)
      | (with_reducible refine LeO.bind ?_ (fun _ => ?_))
      | exact ih0 _ _ _
      | exact LeO.none _
      | refine LeO.ite ?_ ?_
      | refine LeO.bind ?_ (fun _ => ?_)
theorem spec_l00Has.mono : ∀ a0 a1 k, LeO (spec_l00Has.f k a0 a1) (spec_l00Has.f (k + 1) a0 a1) := by
  intro a0 a1 k
  have ih0 := spec_l00Has.mono_l k
  unfold spec_l00Has.f
  repeat' first
      | (with_reducible exact ih0 _ _ _)
      | (with_reducible exact LeO.refl _)
      | (with_reducible exact LeO.none _)
      | (with_reducible refine LeO.ite ?_ ?_)
      | (with_reducible refine LeO.bind ?_ (fun _ => ?_))
      | exact ih0 _ _ _
      | exact LeO.none _
      | refine LeO.ite ?_ ?_
      | refine LeO.bind ?_ (fun _ => ?_)
set_option maxHeartbeats 8000000 in
set_option maxRecDepth 100000 in
theorem spec_l00Has.calls (k : Nat) (A0 : Option Addr) (c0 : Nat) (l0 : List Int) (a1 : Int) (r : Bool) (w : World) (hr0 : Kd.C (Kd.int .i64) w A0 l0.length l0) (hc0 : l0.length ≤ c0) (h : spec_l00Has.f k l0 a1 = some r) :
    Calls Tryz.prog 63 #[.slice A0 l0.length c0, .int .i64 a1] w fun e w' => e = .returned (.bool r) ∧ Drawn0 w w' := by
  have HR0 := Aside0.mk hr0
  have HC0 := Aside0.mk hc0
  clear hr0 hc0
  have H : (spec_l00Has.l0 k l0 a1 0) = some r := h
  clear h
  have H' := Aside0.mk H
  clear H
  go_enter Tryz.func63, Tryz.ntmps63
  go_wp2
  go_loopg [5] k (fun kq v5 w' => ∃ (x5_1 : Int), v5 = .int .i64 x5_1 ∧ Aside0 (spec_l00Has.l0 kq l0 a1 x5_1 = some r) ∧ Aside0 (kq ≤ k) ∧ Drawn0 w w')
  case atStart => exact ⟨(0), (by first | rfl | (simp; done) | (simp [*]; done)), H', ⟨Nat.le_refl _⟩, by repeat (first | exact Drawn0.refl _ | apply Drawn0.step)⟩
  case round =>
    clear H'
    try clear p2
    obtain ⟨x5_1, rfl, HA, HK1, ⟨m1, rfl⟩⟩ := hrel
    cases gk with
    | zero => exact absurd HA.out (by simp [spec_l00Has.l0])
    | succ k1 =>
      have H := HA.out
      clear HA
      simp only [spec_l00Has.l0] at H
      by_cases c3 : x5_1 < (l0.length : Int)
      · rw [if_pos c3] at H
        have c3b0 : decide (x5_1 < (l0.length : Int)) = true := decide_eq_true c3
        clear c3
        by_cases c4 : 0 ≤ x5_1
        · rw [if_pos c4] at H
          have c4b0 : decide (0 ≤ x5_1) = true := decide_eq_true c4
          clear c4
          by_cases c5 : (rd l0 x5_1) = a1
          · rw [if_pos c5] at H
            have c5b0 : ((rd l0 x5_1) == a1) = true := beq_iff_eq.mpr c5
            have c5b1 : ((rd l0 x5_1) != a1) = false := bne_eq_false_iff_eq.mpr c5
            clear c5
            obtain rfl := Option.some.inj H
            have p290 : 0 ≤ (x5_1 : Int) := of_decide_eq_true (by first | (with_reducible assumption) | assumption)
            have q290 : x5_1 < (l0.length : Int) := of_decide_eq_true (by first | (with_reducible assumption) | assumption)
            obtain ⟨ad290, e290, hx290_0⟩ := Kd.at_int HR0.out x5_1 p290 q290
            cases e290
            replace p290 := eq_true p290
            replace q290 := eq_true q290
            go_wp2
            go_ret
            exact ⟨by first | rfl | (simp; done) | (simp [*]; done), by repeat (first | exact Drawn0.refl _ | apply Drawn0.step)⟩
          · rw [if_neg c5] at H
            have c5b0 : ((rd l0 x5_1) == a1) = false := beq_eq_false_iff_ne.mpr c5
            have c5b1 : ((rd l0 x5_1) != a1) = true := bne_iff_ne.mpr c5
            have H' := Aside0.mk H
            clear H
            have p290 : 0 ≤ (x5_1 : Int) := of_decide_eq_true (by first | (with_reducible assumption) | assumption)
            have q290 : x5_1 < (l0.length : Int) := of_decide_eq_true (by first | (with_reducible assumption) | assumption)
            obtain ⟨ad290, e290, hx290_0⟩ := Kd.at_int HR0.out x5_1 p290 q290
            cases e290
            replace p290 := eq_true p290
            replace q290 := eq_true q290
            go_wp2
            go_roundg k1
            case measure => have := HK1.out; omega
            case rel => exact ⟨(wrap64 (x5_1 + 1)), (by first | rfl | (simp; done) | (simp [*]; done)), H', ⟨by have := HK1.out; omega⟩, by repeat (first | exact Drawn0.refl _ | apply Drawn0.step)⟩
        · rw [if_neg c4] at H
          exact absurd H (by simp)
      · rw [if_neg c3] at H
        have c3b0 : decide (x5_1 < (l0.length : Int)) = false := decide_eq_false c3
        clear c3
        obtain rfl := Option.some.inj H
        go_wp2
        go_ret
        exact ⟨by first | rfl | (simp; done) | (simp [*]; done), by repeat (first | exact Drawn0.refl _ | apply Drawn0.step)⟩
end Go.Proofs.YtoippneeagaceaaGreat.PR

namespace Go.Proofs.YtoippneeagaceaaGreat.PR
open Go.RowKit Go.Proofs.YtoippneeagaceaaGreatW.PrintWords Go.Proofs.YtoippneeagaceaaGreatW.PrintLast Go.Proofs.YtoippneeagaceaaGreatW.PrintMore
theorem wsm {x : Int} (h1 : -9223372036854775808 ≤ x) (h2 : x ≤ 9223372036854775807) : wrap64 x = x := by unfold wrap64; omega
/-! ### words -/
def wordB (x : Int) : Bool := x != 0 && (decide (-16 ≤ x) && decide (x ≤ 16))
def atm (x : Int) : Int := if x < 0 then -x else x
/-- Words with ascending atoms, all above p. -/
def wordsFrom (p : Int) : List Int → Bool
  | [] => true
  | x :: r => wordB x && (decide (p < atm x) && wordsFrom (atm x) r)
def wordsB (l : List Int) : Bool := wordsFrom 0 l
def dayB (d : Int) : Bool := decide (0 ≤ d) && decide (d ≤ 100000)
def rankB (d : Int) : Bool := decide (0 ≤ d) && decide (d ≤ 100)
def ruleB (r : S41) : Bool := wordB r.f0 && (decide (r.f1.length ≤ 6) && wordsB r.f1 && (dayB r.f2 && (dayB r.f3 && (decide (r.f2 ≤ r.f3) && rankB r.f4))))
def rulesB (l : List S41) : Bool := decide (l.length ≤ 24) && l.all ruleB
theorem wordB_iff (x : Int) : wordB x = true ↔ x ≠ 0 ∧ -16 ≤ x ∧ x ≤ 16 := by unfold wordB; simp
theorem atm_pos {x : Int} (h : wordB x = true) : 0 < atm x ∧ atm x ≤ 16 := by
  rw [wordB_iff] at h; unfold atm; split <;> omega
theorem within_eq (a b c : Int) : impl_within.f a b c = some (decide (b ≤ a) && decide (a ≤ c)) := by
  unfold impl_within.f
  by_cases h : a ≥ b
  · rw [if_pos h]; simp [show b ≤ a from h]
  · rw [if_neg h]; simp [show ¬ b ≤ a from h]
theorem in_eq (a b c : Int) : spec_l00In.f a b c = some (decide (b ≤ a) && decide (a ≤ c)) := by
  unfold spec_l00In.f
  by_cases h : a ≥ b
  · rw [if_pos h]; simp [show b ≤ a from h]
  · rw [if_neg h]; simp [show ¬ b ≤ a from h]
theorem isWord_eq (a : Int) : impl_isWord.f a = some (wordB a) := by
  unfold impl_isWord.f wordB
  by_cases h : a = 0
  · simp [h]
  · rw [if_neg h, within_eq]; simp [h]
theorem word_eq (a : Int) : spec_l05Word.f a = some (wordB a) := by
  unfold spec_l05Word.f wordB
  by_cases h : a = 0
  · simp [h]
  · rw [if_neg h, in_eq]; simp [h]
theorem isDate_eq (a : Int) : impl_isDate.f a = some (dayB a) := by unfold impl_isDate.f dayB; rw [within_eq]; rfl
theorem day_eq (a : Int) : spec_l05Day.f a = some (dayB a) := by unfold spec_l05Day.f dayB; rw [in_eq]; rfl
theorem atom_eq {a : Int} (h : wordB a = true) : impl_atom.f a = some (atm a) := by
  rw [wordB_iff] at h
  unfold impl_atom.f atm mx
  rw [wsm (by omega) (by omega)]
  congr 1
  split <;> split <;> omega
theorem satom_eq {a : Int} (h : wordB a = true) : spec_l05Atom.f a = some (atm a) := by
  rw [wordB_iff] at h
  unfold spec_l05Atom.f atm
  split
  · rw [wsm (by omega) (by omega)]
  · rfl
theorem rd_nat (xs : List Int) (n : Nat) : rd xs (n : Int) = xs.getD n 0 := by simp [rd]
theorem drop_cons {α : Type} (z : α) (l : List α) (n : Nat) (h : n < l.length) : l.drop n = l.getD n z :: l.drop (n + 1) := by
  rw [List.drop_eq_getElem_cons h]
  simp [h]
def prevA (l : List Int) (n : Nat) : Int := if n = 0 then 0 else atm (l.getD (n - 1) 0)
theorem areWords_from (most : Int) (l : List Int) (hl : l.length ≤ 9223372036854775807) (d : Nat) : ∀ (n k : Nat), l.length - n = d → n ≤ l.length → d < k → (n ≠ 0 → wordB (l.getD (n - 1) 0) = true) →
    impl_areWords.l0 k l most l (l.length : Int) (n : Int) = some (wordsFrom (prevA l n) (l.drop n) && decide ((l.length : Int) ≤ most)) := by
  induction d with
  | zero =>
    intro n k hd hn hk hw
    obtain ⟨k, rfl⟩ : ∃ m, k = m + 1 := ⟨k - 1, by omega⟩
    have e : l.drop n = [] := List.drop_eq_nil_of_le (by omega)
    simp only [impl_areWords.l0]
    rw [if_neg (by omega), e]
    simp [wordsFrom]
  | succ d ih =>
    intro n k hd hn hk hw
    obtain ⟨k, rfl⟩ : ∃ m, k = m + 1 := ⟨k - 1, by omega⟩
    have hlt : n < l.length := by omega
    rw [drop_cons 0 l n hlt]
    simp only [impl_areWords.l0]
    rw [if_pos (by omega), if_pos (by omega), if_pos (by omega), isWord_eq, rd_nat]
    simp only [Option.bind_some]
    generalize hx : l.getD n 0 = x
    by_cases hwx : wordB x = true
    · rw [if_pos hwx]
      have hap := atm_pos hwx
      have e1 : wrap64 ((n : Int) + 1) = ((n + 1 : Nat) : Int) := by rw [wsm (by omega) (by omega)]; omega
      have hnext := ih (n + 1) k (by omega) (by omega) (by omega) (fun _ => by rw [Nat.add_sub_cancel, hx]; exact hwx)
      have ep : prevA l (n + 1) = atm x := by unfold prevA; rw [if_neg (by omega), Nat.add_sub_cancel, hx]
      rw [ep] at hnext
      by_cases h0 : n = 0
      · subst h0
        rw [if_neg (by omega), e1, hnext]
        simp [wordsFrom, hwx, prevA, hap.1]
      · have hp := hw h0
        have e2 : wrap64 ((n : Int) - 1) = ((n - 1 : Nat) : Int) := by rw [wsm (by omega) (by omega)]; omega
        rw [if_pos (by omega), e2, if_pos (by omega), if_pos (by omega), rd_nat, atom_eq hp, atom_eq hwx]
        simp only [Option.bind_some]
        have ep0 : prevA l n = atm (l.getD (n - 1) 0) := by unfold prevA; rw [if_neg h0]
        rw [ep0]
        by_cases hge : atm (l.getD (n - 1) 0) ≥ atm x
        · rw [if_pos hge]
          simp only [wordsFrom, hwx, Bool.true_and]
          rw [decide_eq_false (by omega)]
          simp
        · rw [if_neg hge, e1, hnext]
          simp only [wordsFrom, hwx, Bool.true_and]
          rw [decide_eq_true (p := atm (l.getD (n - 1) 0) < atm x) (by omega)]
          simp
    · rw [if_neg hwx]
      simp [wordsFrom, hwx]
theorem areWords_eq (l : List Int) (most : Int) (hl : l.length ≤ 9223372036854775807) (k : Nat) (hk : l.length < k) : impl_areWords.f k l most = some (wordsB l && decide ((l.length : Int) ≤ most)) := by
  unfold impl_areWords.f
  have := areWords_from most l hl l.length 0 k (by omega) (by omega) hk (by omega)
  simpa [prevA, wordsB] using this
theorem words_from (l : List Int) (hl : l.length ≤ 9223372036854775807) (d : Nat) : ∀ (n k : Nat), l.length - n = d → n ≤ l.length → d < k → (n ≠ 0 → wordB (l.getD (n - 1) 0) = true) →
    spec_l05Words.l0 k l (l.length : Int) (n : Int) = some (wordsFrom (prevA l n) (l.drop n)) := by
  induction d with
  | zero =>
    intro n k hd hn hk hw
    obtain ⟨k, rfl⟩ : ∃ m, k = m + 1 := ⟨k - 1, by omega⟩
    have e : l.drop n = [] := List.drop_eq_nil_of_le (by omega)
    simp only [spec_l05Words.l0]
    rw [if_neg (by omega), e]
    simp [wordsFrom]
  | succ d ih =>
    intro n k hd hn hk hw
    obtain ⟨k, rfl⟩ : ∃ m, k = m + 1 := ⟨k - 1, by omega⟩
    have hlt : n < l.length := by omega
    rw [drop_cons 0 l n hlt]
    simp only [spec_l05Words.l0]
    rw [if_pos (by omega), if_pos (by omega), if_pos (by omega), word_eq, rd_nat]
    simp only [Option.bind_some]
    generalize hx : l.getD n 0 = x
    by_cases hwx : wordB x = true
    · rw [if_pos hwx]
      have hap := atm_pos hwx
      have e1 : wrap64 ((n : Int) + 1) = ((n + 1 : Nat) : Int) := by rw [wsm (by omega) (by omega)]; omega
      have hnext := ih (n + 1) k (by omega) (by omega) (by omega) (fun _ => by rw [Nat.add_sub_cancel, hx]; exact hwx)
      have ep : prevA l (n + 1) = atm x := by unfold prevA; rw [if_neg (by omega), Nat.add_sub_cancel, hx]
      rw [ep] at hnext
      by_cases h0 : n = 0
      · subst h0
        rw [if_neg (by omega), e1, hnext]
        simp [wordsFrom, hwx, prevA, hap.1]
      · have hp := hw h0
        have e2 : wrap64 ((n : Int) - 1) = ((n - 1 : Nat) : Int) := by rw [wsm (by omega) (by omega)]; omega
        rw [if_pos (by omega), satom_eq hwx]
        simp only [Option.bind_some]
        rw [e2, if_pos (by omega), if_pos (by omega), rd_nat, satom_eq hp]
        simp only [Option.bind_some]
        have ep0 : prevA l n = atm (l.getD (n - 1) 0) := by unfold prevA; rw [if_neg h0]
        rw [ep0]
        by_cases hge : atm x ≤ atm (l.getD (n - 1) 0)
        · rw [if_pos hge]
          simp only [wordsFrom, hwx, Bool.true_and]
          rw [decide_eq_false (by omega)]
          simp
        · rw [if_neg hge, e1, hnext]
          simp only [wordsFrom, hwx, Bool.true_and]
          rw [decide_eq_true (p := atm (l.getD (n - 1) 0) < atm x) (by omega)]
          simp
    · rw [if_neg hwx]
      simp [wordsFrom, hwx]
theorem words_eq (l : List Int) (hl : l.length ≤ 9223372036854775807) (k : Nat) (hk : l.length < k) : spec_l05Words.f k l = some (wordsB l) := by
  unfold spec_l05Words.f
  have := words_from l hl l.length 0 k (by omega) (by omega) hk (by omega)
  simpa [prevA, wordsB] using this
theorem ValidRule_eq (r : S41) (hl : r.f1.length ≤ 9223372036854775807) (k : Nat) (hk : r.f1.length < k) : impl_ValidRule.f k r.f0 r.f1 r.f2 r.f3 r.f4 = some (ruleB r) := by
  unfold impl_ValidRule.f
  rw [isWord_eq, areWords_eq _ _ hl k hk, isDate_eq, isDate_eq, within_eq]
  simp only [Option.bind_some]
  have e : decide ((r.f1.length : Int) ≤ 6) = decide (r.f1.length ≤ 6) := by rw [decide_eq_decide]; omega
  rw [e]
  unfold ruleB rankB
  cases wordB r.f0 <;> cases wordsB r.f1 <;> cases decide (r.f1.length ≤ 6) <;> cases dayB r.f2 <;> cases dayB r.f3 <;> by_cases h : r.f2 ≤ r.f3 <;> simp [h]
end Go.Proofs.YtoippneeagaceaaGreat.PR

namespace Go.Proofs.YtoippneeagaceaaGreat.PR
open Go.RowKit Go.Shelf Go.Proofs.YtoippneeagaceaaGreatW.PrintWords Go.Proofs.YtoippneeagaceaaGreatW.PrintLast Go.Proofs.YtoippneeagaceaaGreatW.PrintMore
set_option linter.unusedVariables false
set_option linter.unusedSimpArgs false
/-- The first index from n on at which p holds, -1 if there is none. -/
def idxFrom {α : Type} (p : α → Bool) : Nat → List α → Int
  | _, [] => -1
  | n, x :: r => if p x then (n : Int) else idxFrom p (n + 1) r
theorem idxFrom_nonneg {α : Type} (p : α → Bool) (l : List α) : ∀ n, decide (idxFrom p n l ≥ 0) = l.any p := by
  induction l with
  | nil => intro n; rfl
  | cons x r ih =>
    intro n
    unfold idxFrom
    cases h : p x with
    | true => simp [h]
    | false => simp only [Bool.false_eq_true, if_false, List.any_cons, h, Bool.false_or]; exact ih (n + 1)
/-- What a function value over rules pays: in every later world it answers p x, and below w all stays. -/
def RuleFn (g : Nat) (lb : Array Value) (w : World) (x : S41) (b : Bool) : Prop :=
  ∀ (W : World) (A1 : Option Addr) (c1 : Nat), Below w.heap.size w W → x.f1.length ≤ c1 → Kd.C (Kd.int .i64) w A1 x.f1.length x.f1 →
    Calls Tryz.prog g (#[.agg #[.int .i64 x.f0, .slice A1 x.f1.length c1, .int .i64 x.f2, .int .i64 x.f3, .int .i64 x.f4]] ++ lb) W fun e w' => e = .returned (.bool b) ∧ Below w.heap.size w w'
set_option maxHeartbeats 4000000 in
set_option maxRecDepth 100000 in
theorem indexFunc41 (g : Nat) (lb : Array Value) (eg : ∀ args w, (callFunc g args).run Tryz.prog w = .ok (.enter g args) w) (p : S41 → Bool) (A : Option Addr) (c : Nat) (xs : List S41) (w : World)
    (hr : Kd.C k41 w A xs.length xs) (hp : ∀ x ∈ xs, RuleFn g lb w x (p x)) :
    Calls Tryz.prog 95 #[.slice A xs.length c, .func (.func g) #[] lb] w fun e w' => e = .returned (.int .i64 (idxFrom p 0 xs)) ∧ Below w.heap.size w w' := by
  have hm : xs.length ≤ 9223372036854775807 := hr.2.1
  have HR := Aside0.mk hr
  have HP := Aside0.mk hp
  clear hr hp
  go_enter Tryz.func95, Tryz.ntmps95
  go_wp2
  go_loopg [5, 8] xs.length (fun gg _ s8 wr => ∃ n : Nat, n ≤ xs.length ∧ xs.length - n ≤ gg ∧ s8 = .int .i64 n ∧ Aside0 (Below w.heap.size w wr) ∧ Aside0 (idxFrom p 0 xs = idxFrom p n (xs.drop n)))
  case atStart => exact ⟨0, Nat.zero_le _, by omega, rfl, ⟨Below.refl _ _⟩, ⟨rfl⟩⟩
  case round =>
    obtain ⟨n, hn, hg, rfl, HB, HI⟩ := hrel
    by_cases hlt : n < xs.length
    · have hltz : (n : Int) < (xs.length : Int) := by omega
      obtain ⟨ad, A1, c1, e, hx0, hx1, hx2, hx3, hx4, hl1, hi1⟩ := at_T41 HR.out (n : Int) (by omega) hltz
      cases e
      simp only [Int.toNat_natCast] at hx0 hx1 hx2 hx3 hx4
      replace hx0 := (HB.out.cell (World.block_lt_of_cell? w _ hx0)).trans hx0
      replace hx1 := (HB.out.cell (World.block_lt_of_cell? w _ hx1)).trans hx1
      replace hx2 := (HB.out.cell (World.block_lt_of_cell? w _ hx2)).trans hx2
      replace hx3 := (HB.out.cell (World.block_lt_of_cell? w _ hx3)).trans hx3
      replace hx4 := (HB.out.cell (World.block_lt_of_cell? w _ hx4)).trans hx4
      obtain ⟨x, hx⟩ : ∃ x, x = rd_T41 xs (n : Int) := ⟨_, rfl⟩
      rw [← hx] at hx0 hx1 hx2 hx3 hx4 hl1 hi1
      have hxe : x = xs.getD n z41 := by rw [hx]; simp [rd_T41]
      have hmem : x ∈ xs := by rw [hxe]; simp [hlt]
      have hcall := HP.out x hmem wr A1 c1 HB.out hl1 hi1
      have HS : Aside0 (xs.drop n = x :: xs.drop (n + 1)) := ⟨by rw [hxe]; exact drop_cons z41 xs n hlt⟩
      have HL1 := Aside0.mk hl1
      have HI1 := Aside0.mk hi1
      clear hx hxe hmem hl1 hi1
      cases hq : p x with
      | true =>
        rw [hq] at hcall
        have HC := Aside0.mk hcall
        have HQ := Aside0.mk hq
        clear hcall hq
        go_wp2_with (go_at_fn g; refine HC.out.mono ?_; rintro e w' ⟨rfl, hb'⟩)
        go_ret
        refine ⟨?_, hb'⟩
        rw [HI.out, HS.out]
        simp [idxFrom, HQ.out]
      | false =>
        rw [hq] at hcall
        have HC := Aside0.mk hcall
        have HQ := Aside0.mk hq
        clear hcall hq
        go_wp2_with (go_at_fn g; refine HC.out.mono ?_; rintro e w' ⟨rfl, hb'⟩)
        go_roundg (xs.length - (n + 1))
        case measure => omega
        case rel =>
          refine ⟨n + 1, by omega, by omega, by go_num, ⟨hb'⟩, ⟨?_⟩⟩
          rw [HI.out, HS.out]
          simp [idxFrom, HQ.out]
    · have hltz : ¬ (n : Int) < (xs.length : Int) := by omega
      have : n = xs.length := by omega
      subst this
      go_wp2
      go_ret
      refine ⟨?_, HB.out⟩
      rw [HI.out, List.drop_length]
      rfl
set_option maxHeartbeats 4000000 in
theorem containsFunc41 (g : Nat) (lb : Array Value) (eg : ∀ args w, (callFunc g args).run Tryz.prog w = .ok (.enter g args) w) (p : S41 → Bool) (A : Option Addr) (c : Nat) (xs : List S41) (w : World)
    (hr : Kd.C k41 w A xs.length xs) (hp : ∀ x ∈ xs, RuleFn g lb w x (p x)) :
    Calls Tryz.prog 70 #[.slice A xs.length c, .func (.func g) #[] lb] w fun e w' => e = .returned (.bool (xs.any p)) ∧ Below w.heap.size w w' := by
  have H := Aside0.mk (indexFunc41 g lb eg p A c xs w hr hp)
  clear hr hp
  go_enter Tryz.func70, Tryz.ntmps70
  go_wp2_with (go_at_call 95; refine H.out.mono ?_; rintro e w' ⟨rfl, hb'⟩)
  go_ret
  refine ⟨?_, hb'⟩
  have e := idxFrom_nonneg p xs 0
  rw [← e]
  rfl
end Go.Proofs.YtoippneeagaceaaGreat.PR

namespace Go.Proofs.YtoippneeagaceaaGreat.PR
open Go.RowKit Go.Shelf Go.Proofs.YtoippneeagaceaaGreatW.PrintWords Go.Proofs.YtoippneeagaceaaGreatW.PrintLast Go.Proofs.YtoippneeagaceaaGreatW.PrintMore
set_option linter.unusedVariables false
set_option linter.unusedSimpArgs false
theorem C_len {α : Type} {d : Kd α} {w : World} {A : Option Addr} {xs : List α} (h : Kd.C d w A xs.length xs) : xs.length ≤ 9223372036854775807 := h.2.1
set_option maxHeartbeats 4000000 in
theorem notValid_calls (x : S41) (A1 : Option Addr) (c1 : Nat) (w : World) (hl1 : x.f1.length ≤ c1) (hi1 : Kd.C (Kd.int .i64) w A1 x.f1.length x.f1) (hs : x.f1.length ≤ 9223372036854775807) :
    Calls Tryz.prog 71 #[.agg #[.int .i64 x.f0, .slice A1 x.f1.length c1, .int .i64 x.f2, .int .i64 x.f3, .int .i64 x.f4]] w fun e w' => e = .returned (.bool (!ruleB x)) ∧ Below w.heap.size w w' := by
  have H := Aside0.mk fun W => impl_ValidRule.calls (x.f1.length + 1) x.f0 A1 c1 x.f1 x.f2 x.f3 x.f4 (ruleB x) W
  have HV := Aside0.mk (ValidRule_eq x hs (x.f1.length + 1) (by omega))
  have HC := Aside0.mk hi1
  have HL := Aside0.mk hl1
  clear hi1 hl1 hs
  go_enter Tryz.func71, Tryz.ntmps71
  go_wp2_with (go_at_call 49; refine (H.out _ (Kd.C_below HC.out (below_alloc (Below.refl _ _) _)) HL.out HV.out).mono ?_; rintro e w' ⟨rfl, hb'⟩)
  go_ret
  refine ⟨rfl, below_then (below_alloc (Below.refl _ _) _) (by simp) hb'⟩
/-- What impl.AreRules tells. -/
def impl_AreRules.f (l : List S41) : Option Bool := some (rulesB l)
theorem not_any_not (l : List S41) : (!(l.any fun x => !ruleB x)) = l.all ruleB := by
  induction l with
  | nil => rfl
  | cons x r ih => simp only [List.any_cons, List.all_cons, Bool.not_or, Bool.not_not, ih]
set_option maxHeartbeats 4000000 in
theorem impl_AreRules.calls (A0 : Option Addr) (c0 : Nat) (l0 : List S41) (r : Bool) (w : World) (hr0 : Kd.C k41 w A0 l0.length l0) (hc0 : l0.length ≤ c0) (h : impl_AreRules.f l0 = some r) :
    Calls Tryz.prog 29 #[.slice A0 l0.length c0] w fun e w' => e = .returned (.bool r) ∧ Below w.heap.size w w' := by
  obtain rfl := Option.some.inj h
  clear h
  have HP : ∀ x ∈ l0, RuleFn 71 #[] w x (!ruleB x) := by
    intro x hx W A1 c1 hB hl1 hi1
    exact (notValid_calls x A1 c1 W hl1 (Kd.C_below hi1 hB) (C_len hi1)).mono fun e w' ⟨he, hb⟩ => ⟨he, below_then hB hB.size hb⟩
  have H := Aside0.mk (containsFunc41 71 #[] (enters_of Tryz.func71 (by kernel_rfl) rfl) (fun x => !ruleB x) A0 c0 l0 w hr0 HP)
  have HA := Aside0.mk (not_any_not l0)
  clear HP hr0
  unfold rulesB
  by_cases hle : l0.length ≤ 24
  · have h1 : decide ((l0.length : Int) ≤ 24) = true := by simp; omega
    have h2 : decide (l0.length ≤ 24) = true := by simp; omega
    clear hle
    go_enter Tryz.func29, Tryz.ntmps29
    go_wp2_with (go_at_call 70; refine H.out.mono ?_; rintro e w' ⟨rfl, hb'⟩)
    go_ret
    refine ⟨?_, hb'⟩
    rw [← HA.out, h2, Bool.true_and]
    rfl
  · have h1 : decide ((l0.length : Int) ≤ 24) = false := by simp; omega
    have h2 : decide (l0.length ≤ 24) = false := by simp; omega
    clear hle
    go_enter Tryz.func29, Tryz.ntmps29
    go_wp2
    go_ret
    exact ⟨by rw [h2, Bool.false_and]; rfl, Below.refl _ _⟩
end Go.Proofs.YtoippneeagaceaaGreat.PR

namespace Go.Proofs.YtoippneeagaceaaGreat.PR
open Go.RowKit Go.Shelf Go.Proofs.YtoippneeagaceaaGreatW.PrintWords Go.Proofs.YtoippneeagaceaaGreatW.PrintLast Go.Proofs.YtoippneeagaceaaGreatW.PrintMore
set_option linter.unusedVariables false
set_option linter.unusedSimpArgs false
set_option maxHeartbeats 8000000 in
set_option maxRecDepth 100000 in
theorem l05Rule_calls (x : S41) (p : Addr) (A1 : Option Addr) (c1 : Nat) (w : World) (hx0 : w.cell? p = some (.int .i64 x.f0)) (hx1 : w.cell? ⟨p.block, p.off + 1, none⟩ = some (.slice A1 x.f1.length c1))
    (hx2 : w.cell? ⟨p.block, p.off + 2, none⟩ = some (.int .i64 x.f2)) (hx3 : w.cell? ⟨p.block, p.off + 3, none⟩ = some (.int .i64 x.f3)) (hx4 : w.cell? ⟨p.block, p.off + 4, none⟩ = some (.int .i64 x.f4))
    (hl1 : x.f1.length ≤ c1) (hi1 : Kd.C (Kd.int .i64) w A1 x.f1.length x.f1) :
    Calls Tryz.prog 74 #[.pointer (some p)] w fun e w' => e = .returned (.bool (ruleB x)) ∧ Drawn0 w w' := by
  have HC := Aside0.mk hi1
  have HL := Aside0.mk hl1
  clear hl1 hi1
  unfold ruleB
  have hd : decide (x.f1.length ≤ 6) = decide ((x.f1.length : Int) ≤ 6) := by rw [decide_eq_decide]; omega
  rw [hd]
  clear hd
  cases h1 : wordB x.f0
  · have K1 := Aside0.mk fun W => spec_l05Word.calls x.f0 false W (by rw [word_eq, h1])
    clear h1
    go_enter Tryz.func74, Tryz.ntmps74
    go_wp2
    go_quiet (first | (go_at_call 55; (with_reducible refine (K1.out _).mono ?_); rintro e w' ⟨rfl, ⟨nd, rfl⟩⟩; exact ⟨rfl, _, World.drewN_drewN _ _ _⟩))
    go_wp2
    go_ret
    exact ⟨rfl, by repeat (first | exact Drawn0.refl _ | apply Drawn0.step)⟩
  · cases h2 : decide ((x.f1.length : Int) ≤ 6)
    · have K1 := Aside0.mk fun W => spec_l05Word.calls x.f0 true W (by rw [word_eq, h1])
      clear h1
      go_enter Tryz.func74, Tryz.ntmps74
      go_wp2
      go_quiet (first | (go_at_call 55; (with_reducible refine (K1.out _).mono ?_); rintro e w' ⟨rfl, ⟨nd, rfl⟩⟩; exact ⟨rfl, _, World.drewN_drewN _ _ _⟩))
      go_wp2
      go_ret
      exact ⟨rfl, by repeat (first | exact Drawn0.refl _ | apply Drawn0.step)⟩
    · cases h3 : wordsB x.f1
      · have K1 := Aside0.mk fun W => spec_l05Word.calls x.f0 true W (by rw [word_eq, h1])
        have K2 := Aside0.mk fun (n : Nat) => spec_l05Words.calls (x.f1.length + 1) A1 c1 x.f1 false (w.drewN n) (Kd.C_below HC.out (pw_below_drewN (Below.refl _ _) n)) HL.out (by rw [words_eq x.f1 (C_len HC.out) _ (by omega), h3])
        clear h1 h3
        go_enter Tryz.func74, Tryz.ntmps74
        go_wp2
        go_quiet (first | (go_at_call 55; (with_reducible refine (K1.out _).mono ?_); rintro e w' ⟨rfl, ⟨nd, rfl⟩⟩; exact ⟨rfl, _, World.drewN_drewN _ _ _⟩) | (go_at_call 81; (with_reducible refine (K2.out _).mono ?_); rintro e w' ⟨rfl, ⟨nd, rfl⟩⟩; exact ⟨rfl, _, World.drewN_drewN _ _ _⟩))
        go_wp2
        go_ret
        exact ⟨rfl, by repeat (first | exact Drawn0.refl _ | apply Drawn0.step)⟩
      · cases h4 : dayB x.f2
        · have K1 := Aside0.mk fun W => spec_l05Word.calls x.f0 true W (by rw [word_eq, h1])
          have K2 := Aside0.mk fun (n : Nat) => spec_l05Words.calls (x.f1.length + 1) A1 c1 x.f1 true (w.drewN n) (Kd.C_below HC.out (pw_below_drewN (Below.refl _ _) n)) HL.out (by rw [words_eq x.f1 (C_len HC.out) _ (by omega), h3])
          have K3 := Aside0.mk fun W => spec_l05Day.calls x.f2 false W (by rw [day_eq, h4])
          clear h1 h3 h4
          go_enter Tryz.func74, Tryz.ntmps74
          go_wp2
          go_quiet (first | (go_at_call 55; (with_reducible refine (K1.out _).mono ?_); rintro e w' ⟨rfl, ⟨nd, rfl⟩⟩; exact ⟨rfl, _, World.drewN_drewN _ _ _⟩) | (go_at_call 81; (with_reducible refine (K2.out _).mono ?_); rintro e w' ⟨rfl, ⟨nd, rfl⟩⟩; exact ⟨rfl, _, World.drewN_drewN _ _ _⟩) | (go_at_call_of 38 (Value.int .i64 x.f2); (with_reducible refine (K3.out _).mono ?_); rintro e w' ⟨rfl, ⟨nd, rfl⟩⟩; exact ⟨rfl, _, World.drewN_drewN _ _ _⟩))
          go_wp2
          go_ret
          exact ⟨rfl, by repeat (first | exact Drawn0.refl _ | apply Drawn0.step)⟩
        · cases h5 : dayB x.f3
          · have K1 := Aside0.mk fun W => spec_l05Word.calls x.f0 true W (by rw [word_eq, h1])
            have K2 := Aside0.mk fun (n : Nat) => spec_l05Words.calls (x.f1.length + 1) A1 c1 x.f1 true (w.drewN n) (Kd.C_below HC.out (pw_below_drewN (Below.refl _ _) n)) HL.out (by rw [words_eq x.f1 (C_len HC.out) _ (by omega), h3])
            have K3 := Aside0.mk fun W => spec_l05Day.calls x.f2 true W (by rw [day_eq, h4])
            have K4 := Aside0.mk fun W => spec_l05Day.calls x.f3 false W (by rw [day_eq, h5])
            clear h1 h3 h4 h5
            go_enter Tryz.func74, Tryz.ntmps74
            go_wp2
            go_quiet (first | (go_at_call 55; (with_reducible refine (K1.out _).mono ?_); rintro e w' ⟨rfl, ⟨nd, rfl⟩⟩; exact ⟨rfl, _, World.drewN_drewN _ _ _⟩) | (go_at_call 81; (with_reducible refine (K2.out _).mono ?_); rintro e w' ⟨rfl, ⟨nd, rfl⟩⟩; exact ⟨rfl, _, World.drewN_drewN _ _ _⟩) | (go_at_call_of 38 (Value.int .i64 x.f2); (with_reducible refine (K3.out _).mono ?_); rintro e w' ⟨rfl, ⟨nd, rfl⟩⟩; exact ⟨rfl, _, World.drewN_drewN _ _ _⟩) | (go_at_call_of 38 (Value.int .i64 x.f3); (with_reducible refine (K4.out _).mono ?_); rintro e w' ⟨rfl, ⟨nd, rfl⟩⟩; exact ⟨rfl, _, World.drewN_drewN _ _ _⟩))
            go_wp2
            go_ret
            exact ⟨rfl, by repeat (first | exact Drawn0.refl _ | apply Drawn0.step)⟩
          · cases h6 : decide (x.f2 ≤ x.f3)
            · have K1 := Aside0.mk fun W => spec_l05Word.calls x.f0 true W (by rw [word_eq, h1])
              have K2 := Aside0.mk fun (n : Nat) => spec_l05Words.calls (x.f1.length + 1) A1 c1 x.f1 true (w.drewN n) (Kd.C_below HC.out (pw_below_drewN (Below.refl _ _) n)) HL.out (by rw [words_eq x.f1 (C_len HC.out) _ (by omega), h3])
              have K3 := Aside0.mk fun W => spec_l05Day.calls x.f2 true W (by rw [day_eq, h4])
              have K4 := Aside0.mk fun W => spec_l05Day.calls x.f3 true W (by rw [day_eq, h5])
              clear h1 h3 h4 h5
              go_enter Tryz.func74, Tryz.ntmps74
              go_wp2
              go_quiet (first | (go_at_call 55; (with_reducible refine (K1.out _).mono ?_); rintro e w' ⟨rfl, ⟨nd, rfl⟩⟩; exact ⟨rfl, _, World.drewN_drewN _ _ _⟩) | (go_at_call 81; (with_reducible refine (K2.out _).mono ?_); rintro e w' ⟨rfl, ⟨nd, rfl⟩⟩; exact ⟨rfl, _, World.drewN_drewN _ _ _⟩) | (go_at_call_of 38 (Value.int .i64 x.f2); (with_reducible refine (K3.out _).mono ?_); rintro e w' ⟨rfl, ⟨nd, rfl⟩⟩; exact ⟨rfl, _, World.drewN_drewN _ _ _⟩) | (go_at_call_of 38 (Value.int .i64 x.f3); (with_reducible refine (K4.out _).mono ?_); rintro e w' ⟨rfl, ⟨nd, rfl⟩⟩; exact ⟨rfl, _, World.drewN_drewN _ _ _⟩))
              go_wp2
              go_ret
              exact ⟨rfl, by repeat (first | exact Drawn0.refl _ | apply Drawn0.step)⟩
            · have K1 := Aside0.mk fun W => spec_l05Word.calls x.f0 true W (by rw [word_eq, h1])
              have K2 := Aside0.mk fun (n : Nat) => spec_l05Words.calls (x.f1.length + 1) A1 c1 x.f1 true (w.drewN n) (Kd.C_below HC.out (pw_below_drewN (Below.refl _ _) n)) HL.out (by rw [words_eq x.f1 (C_len HC.out) _ (by omega), h3])
              have K3 := Aside0.mk fun W => spec_l05Day.calls x.f2 true W (by rw [day_eq, h4])
              have K4 := Aside0.mk fun W => spec_l05Day.calls x.f3 true W (by rw [day_eq, h5])
              have K5 := Aside0.mk fun W => spec_l00In.calls x.f4 0 100 (rankB x.f4) W (by rw [in_eq]; rfl)
              clear h1 h3 h4 h5
              go_enter Tryz.func74, Tryz.ntmps74
              go_wp2
              go_quiet (first | (go_at_call 55; (with_reducible refine (K1.out _).mono ?_); rintro e w' ⟨rfl, ⟨nd, rfl⟩⟩; exact ⟨rfl, _, World.drewN_drewN _ _ _⟩) | (go_at_call 81; (with_reducible refine (K2.out _).mono ?_); rintro e w' ⟨rfl, ⟨nd, rfl⟩⟩; exact ⟨rfl, _, World.drewN_drewN _ _ _⟩) | (go_at_call_of 38 (Value.int .i64 x.f2); (with_reducible refine (K3.out _).mono ?_); rintro e w' ⟨rfl, ⟨nd, rfl⟩⟩; exact ⟨rfl, _, World.drewN_drewN _ _ _⟩) | (go_at_call_of 38 (Value.int .i64 x.f3); (with_reducible refine (K4.out _).mono ?_); rintro e w' ⟨rfl, ⟨nd, rfl⟩⟩; exact ⟨rfl, _, World.drewN_drewN _ _ _⟩) | (go_at_call 80; (with_reducible refine (K5.out _).mono ?_); rintro e w' ⟨rfl, ⟨nd, rfl⟩⟩; exact ⟨rfl, _, World.drewN_drewN _ _ _⟩))
              go_wp2
              go_ret
              exact ⟨rfl, by repeat (first | exact Drawn0.refl _ | apply Drawn0.step)⟩
/-- What spec's l05Rules tells. -/
def spec_l05Rules.f (l : List S41) : Option Bool := some (rulesB l)
theorem all_take_succ {p : S41 → Bool} {l : List S41} {n : Nat} (h : n < l.length) (ha : (l.take n).all p = true) (hx : p (l.getD n z41) = true) : (l.take (n + 1)).all p = true := by
  rw [List.take_succ_eq_append_getElem h, List.all_append, ha]
  simp [h] at hx
  simp [hx]
theorem all_false_at {p : S41 → Bool} {l : List S41} {n : Nat} (h : n < l.length) (hx : p (l.getD n z41) = false) : l.all p = false := by
  rw [← Bool.not_eq_true, List.all_eq_true]
  intro hh
  have := hh _ (List.getElem_mem h)
  simp [h] at hx
  rw [hx] at this
  exact absurd this (by simp)
set_option maxHeartbeats 4000000 in
set_option maxRecDepth 100000 in
theorem spec_l05Rules.calls (A0 : Option Addr) (c0 : Nat) (l0 : List S41) (r : Bool) (w : World) (hr0 : Kd.C k41 w A0 l0.length l0) (hc0 : l0.length ≤ c0) (h : spec_l05Rules.f l0 = some r) :
    Calls Tryz.prog 31 #[.slice A0 l0.length c0] w fun e w' => e = .returned (.bool r) ∧ Drawn0 w w' := by
  obtain rfl := Option.some.inj h
  clear h
  have hm : l0.length ≤ 9223372036854775807 := C_len hr0
  have HR := Aside0.mk hr0
  clear hr0
  go_enter Tryz.func31, Tryz.ntmps31
  go_wp2
  go_loopg [3, 6] l0.length (fun gg _ s6 wr => ∃ n : Nat, n ≤ l0.length ∧ l0.length - n ≤ gg ∧ s6 = .int .i64 n ∧ Aside0 (Drawn0 w wr) ∧ Aside0 ((l0.take n).all ruleB = true))
  case atStart => exact ⟨0, Nat.zero_le _, by omega, rfl, ⟨Drawn0.refl _⟩, ⟨rfl⟩⟩
  case round =>
    obtain ⟨n, hn, hg, rfl, HB, HI⟩ := hrel
    by_cases hlt : n < l0.length
    · have hltz : (n : Int) < (l0.length : Int) := by omega
      obtain ⟨ad, A1, c1, e, hx0, hx1, hx2, hx3, hx4, hl1, hi1⟩ := at_T41 (Kd.C_below HR.out HB.out.below) (n : Int) (by omega) hltz
      cases e
      simp only [Int.toNat_natCast] at hx0 hx1 hx2 hx3 hx4
      obtain ⟨x, hx⟩ : ∃ x, x = rd_T41 l0 (n : Int) := ⟨_, rfl⟩
      rw [← hx] at hx0 hx1 hx2 hx3 hx4 hl1 hi1
      have HX := Aside0.mk (show l0.getD n z41 = x by rw [hx]; simp [rd_T41])
      clear hx
      have hcall := l05Rule_calls x (ad.add (n * 5)) A1 c1 wr hx0 hx1 hx2 hx3 hx4 hl1 hi1
      clear hx0 hx1 hx2 hx3 hx4 hl1 hi1
      cases hq : ruleB x with
      | true =>
        rw [hq] at hcall
        have HC := Aside0.mk hcall
        have HQ := Aside0.mk hq
        clear hcall hq
        go_wp2_with (go_at_call 74; refine HC.out.mono ?_; rintro e w' ⟨rfl, ⟨nd, rfl⟩⟩)
        go_roundg (l0.length - (n + 1))
        case measure => omega
        case rel => exact ⟨n + 1, by omega, by omega, by go_num, ⟨HB.out.step _⟩, ⟨all_take_succ hlt HI.out (by rw [HX.out]; exact HQ.out)⟩⟩
      | false =>
        rw [hq] at hcall
        have HC := Aside0.mk hcall
        have HQ := Aside0.mk hq
        clear hcall hq
        go_wp2_with (go_at_call 74; refine HC.out.mono ?_; rintro e w' ⟨rfl, ⟨nd, rfl⟩⟩)
        go_ret
        refine ⟨?_, HB.out.step _⟩
        unfold rulesB
        rw [all_false_at hlt (by rw [HX.out]; exact HQ.out), Bool.and_false]
        rfl
    · have hltz : ¬ (n : Int) < (l0.length : Int) := by omega
      have : n = l0.length := by omega
      subst this
      have HA := Aside0.mk (show rulesB l0 = decide ((l0.length : Int) ≤ 24) by
        have := HI.out
        rw [List.take_length] at this
        unfold rulesB
        rw [this, Bool.and_true, decide_eq_decide]
        omega)
      go_wp2
      go_ret
      exact ⟨by rw [HA.out]; rfl, HB.out⟩
end Go.Proofs.YtoippneeagaceaaGreat.PR

namespace Go.Proofs.YtoippneeagaceaaGreat.PR
open Go.RowKit Go.Shelf Go.Proofs.YtoippneeagaceaaGreatW.PrintWords Go.Proofs.YtoippneeagaceaaGreatW.PrintLast Go.Proofs.YtoippneeagaceaaGreatW.PrintMore
set_option linter.unusedVariables false
set_option linter.unusedSimpArgs false
/-- An empty literal is a row of the call's own. -/
theorem R_empty {α : Type} (d : Kd α) (e : Nat) (W : World) (base : Nat) (ok : Nat → Prop) (hb : base ≤ W.heap.size) (hok : ok W.heap.size) : Kd.R d e (W.alloc (.cells #[] e)) base ok (.slice (some ⟨W.heap.size, 0, none⟩) 0 0) [] :=
  ⟨fun k hk => by
    have : W.heap.size = k := by simpa [Value.ownBlock] using hk
    exact this ▸ hok, OwnRow.lit W base (Reps.none _ _) hb (by simp)⟩
def onB (day : Int) (r : S41) : Bool := decide (r.f2 ≤ day) && decide (day ≤ r.f3)
/-- The indices, from n on, of the rules that are active on a day. -/
def actFrom (day : Int) : Nat → List S41 → List Int
  | _, [] => []
  | n, r :: t => if onB day r then (n : Int) :: actFrom day (n + 1) t else actFrom day (n + 1) t
theorem actFrom_on {day : Int} {n : Nat} {r : S41} {t : List S41} (h : onB day r = true) : actFrom day n (r :: t) = (n : Int) :: actFrom day (n + 1) t := by simp [actFrom, h]
theorem actFrom_off {day : Int} {n : Nat} {r : S41} {t : List S41} (h : onB day r = false) : actFrom day n (r :: t) = actFrom day (n + 1) t := by simp [actFrom, h]
def actIdx (day : Int) (l : List S41) : List Int := actFrom day 0 l
set_option maxHeartbeats 4000000 in
theorem l05On_calls (x : S41) (day : Int) (p : Addr) (w : World) (hx2 : w.cell? ⟨p.block, p.off + 2, none⟩ = some (.int .i64 x.f2)) (hx3 : w.cell? ⟨p.block, p.off + 3, none⟩ = some (.int .i64 x.f3)) :
    Calls Tryz.prog 39 #[.pointer (some p), .int .i64 day] w fun e w' => e = .returned (.bool (onB day x)) ∧ Drawn0 w w' := by
  unfold onB
  cases h1 : decide (x.f2 ≤ day)
  · go_enter Tryz.func39, Tryz.ntmps39
    go_wp2
    repeat (go_quiet (fail); try go_wp2)
    go_ret
    exact ⟨rfl, by repeat (first | exact Drawn0.refl _ | apply Drawn0.step)⟩
  · go_enter Tryz.func39, Tryz.ntmps39
    go_wp2
    repeat (go_quiet (fail); try go_wp2)
    go_ret
    exact ⟨rfl, by repeat (first | exact Drawn0.refl _ | apply Drawn0.step)⟩
/-- What spec's ActiveRules tells. -/
def spec_ActiveRules.f (l : List S41) (day : Int) : Option (List Int × Bool) := if rulesB l && dayB day then some (actIdx day l, true) else some ([], false)
set_option maxHeartbeats 8000000 in
set_option maxRecDepth 100000 in
theorem spec_ActiveRules.calls (A0 : Option Addr) (c0 : Nat) (l0 : List S41) (a1 : Int) (r1 : List Int) (r2 : Bool) (w : World) (hr0 : Kd.C k41 w A0 l0.length l0) (hc0 : l0.length ≤ c0) (h : spec_ActiveRules.f l0 a1 = some (r1, r2)) :
    Calls Tryz.prog 13 #[.slice A0 l0.length c0, .int .i64 a1] w fun e w' => ∃ v0_ : Value, e = .returned (.tuple #[v0_, .bool r2]) ∧ Kd.R (Kd.int .i64) 2 w' w.heap.size (fun _ => True) v0_ r1 ∧ Below w.heap.size w w' := by
  unfold spec_ActiveRules.f at h
  have HR := Aside0.mk hr0
  have HC := Aside0.mk hc0
  clear hr0 hc0
  have K1 := Aside0.mk fun (W : World) (hB : Below w.heap.size w W) => spec_l05Rules.calls A0 c0 l0 (rulesB l0) W (Kd.C_below HR.out hB) HC.out rfl
  cases h1 : rulesB l0
  · rw [h1] at h K1
    obtain ⟨rfl, rfl⟩ := Prod.mk.inj (Option.some.inj h)
    clear h h1
    go_enter Tryz.func13, Tryz.ntmps13
    go_wp2_with (go_at_call 31; (with_reducible refine (K1.out _ (Below.refl _ _)).mono ?_); rintro e w' ⟨rfl, ⟨nd, rfl⟩⟩)
    go_ret2
    exact ⟨_, rfl, Kd.R_nil _ _ _ _ _, pw_below_drewN (Below.refl _ _) _⟩
  · rw [h1, Bool.true_and] at h
    rw [h1] at K1
    have HL := Aside0.mk (show l0.length ≤ 24 by
      unfold rulesB at h1
      rw [Bool.and_eq_true] at h1
      exact of_decide_eq_true h1.1)
    clear h1
    cases h2 : dayB a1
    · have K2 := Aside0.mk fun W => spec_l05Day.calls a1 false W (by rw [day_eq, h2])
      rw [h2] at h
      obtain ⟨rfl, rfl⟩ := Prod.mk.inj (Option.some.inj h)
      clear h h2
      go_enter Tryz.func13, Tryz.ntmps13
      go_wp2_with (first | (go_at_call 31; (with_reducible refine (K1.out _ (Below.refl _ _)).mono ?_); rintro e w' ⟨rfl, ⟨nd, rfl⟩⟩) | (go_at_call 38; (with_reducible refine (K2.out _).mono ?_); rintro e w' ⟨rfl, ⟨nd, rfl⟩⟩))
      go_ret2
      exact ⟨_, rfl, Kd.R_nil _ _ _ _ _, by repeat (first | exact Below.refl _ _ | apply pw_below_drewN)⟩
    · have K2 := Aside0.mk fun W => spec_l05Day.calls a1 true W (by rw [day_eq, h2])
      rw [h2] at h
      obtain ⟨rfl, rfl⟩ := Prod.mk.inj (Option.some.inj h)
      clear h h2
      go_enter Tryz.func13, Tryz.ntmps13
      go_wp2_with (first | (go_at_call 31; (with_reducible refine (K1.out _ (Below.refl _ _)).mono ?_); rintro e w' ⟨rfl, ⟨nd, rfl⟩⟩) | (go_at_call 38; (with_reducible refine (K2.out _).mono ?_); rintro e w' ⟨rfl, ⟨nd, rfl⟩⟩))
      go_loopg [6, 7, 19] l0.length (fun gg v6 _ s19 wr => ∃ (n : Nat) (xs : List Int), n ≤ l0.length ∧ l0.length - n ≤ gg ∧ s19 = .int .i64 n ∧ Aside0 (Kd.R (Kd.int .i64) 2 wr w.heap.size (fun _ => True) v6 xs) ∧ Aside0 (Below w.heap.size w wr) ∧ Aside0 (xs.length ≤ n ∧ actIdx a1 l0 = xs ++ actFrom a1 n (l0.drop n)))
      case atStart => exact ⟨0, [], Nat.zero_le _, by omega, rfl, ⟨R_empty (Kd.int .i64) 2 _ _ _ (by simp) trivial⟩, ⟨below_alloc (pw_below_drewN (Below.refl _ _) _) _⟩, ⟨Nat.zero_le _, rfl⟩⟩
      case round =>
        clear K1 K2
        obtain ⟨n, xs, hn, hg, rfl, HO, HB, HI⟩ := hrel
        by_cases hlt : n < l0.length
        · have hltz : (n : Int) < (l0.length : Int) := by omega
          obtain ⟨ad, A1, c1, e, hx0, hx1, hx2, hx3, hx4, hl1, hi1⟩ := at_T41 (Kd.C_below HR.out HB.out) (n : Int) (by omega) hltz
          cases e
          simp only [Int.toNat_natCast] at hx2 hx3
          obtain ⟨x, hx⟩ : ∃ x, x = rd_T41 l0 (n : Int) := ⟨_, rfl⟩
          rw [← hx] at hx2 hx3
          have HS : Aside0 (l0.drop n = x :: l0.drop (n + 1)) := ⟨by rw [hx, drop_cons z41 l0 n hlt]; simp [rd_T41]⟩
          have hcall := l05On_calls x a1 (ad.add (n * 5)) wr hx2 hx3
          clear hx hx0 hx1 hx2 hx3 hx4 hl1 hi1
          have hlen := HL.out
          cases hq : onB a1 x with
          | true =>
            rw [hq] at hcall
            have HQ := Aside0.mk hcall
            have HE := Aside0.mk (HI.out.2.trans (by rw [HS.out, actFrom_on hq, List.append_cons]))
            clear hcall hq
            go_wp2_with (first | (go_at_call 39; (with_reducible refine HQ.out.mono ?_); rintro e w' ⟨rfl, ⟨nd, rfl⟩⟩) | (at_builtin; refine Kd.R_append (Kd.int .i64) (w0 := w) w.heap.size rfl (.tmp 27) (.tmp 29) 26 2 (.int .i64 0) 8 rfl Tryz.underlying26 info2 rfl (by decide) (by omega) _ xs (n : Int) [.int .i64 (n : Int)] (fun _ => True) (fun _ => False) rfl rfl rfl (fun _ hk => hk.elim) (fun _ _ => trivial) (by (with_reducible repeat (first | apply Kd.R_alloc | apply Kd.R_drewN | apply Kd.R_drew)); exact HO.out) (by repeat (first | exact HB.out | apply below_alloc | apply pw_below_drewN)) (by have := HB.out.size; simp; omega) (by have := HI.out.1; omega) ?_; intro v1 w1 ho hb hg2 hat; have HO2 := Aside0.mk ho; have HB2 := Aside0.mk hb; clear ho hb hg2 hat))
            go_roundg (l0.length - (n + 1))
            case measure => omega
            case rel => exact ⟨n + 1, xs ++ [(n : Int)], by omega, by omega, by go_num, HO2, HB2, ⟨by have := HI.out.1; simp; omega, HE.out⟩⟩
          | false =>
            rw [hq] at hcall
            have HQ := Aside0.mk hcall
            have HE := Aside0.mk (HI.out.2.trans (by rw [HS.out, actFrom_off hq]))
            clear hcall hq
            go_wp2_with (go_at_call 39; (with_reducible refine HQ.out.mono ?_); rintro e w' ⟨rfl, ⟨nd, rfl⟩⟩)
            go_roundg (l0.length - (n + 1))
            case measure => omega
            case rel => exact ⟨n + 1, xs, by omega, by omega, by go_num, ⟨by (with_reducible repeat (first | apply Kd.R_alloc | apply Kd.R_drewN | apply Kd.R_drew)); exact HO.out⟩, ⟨pw_below_drewN HB.out _⟩, ⟨by have := HI.out.1; omega, HE.out⟩⟩
        · have hltz : ¬ (n : Int) < (l0.length : Int) := by omega
          have : n = l0.length := by omega
          subst this
          have HE := Aside0.mk (show actIdx a1 l0 = xs by have := HI.out.2; rwa [List.drop_length, show actFrom a1 l0.length [] = [] from rfl, List.append_nil] at this)
          go_wp2
          go_ret2
          exact ⟨_, rfl, by rw [HE.out]; exact HO.out, HB.out⟩
theorem filter_on {day : Int} {r : S41} {t : List S41} (h : onB day r = true) : (r :: t).filter (onB day) = r :: t.filter (onB day) := by simp [h]
theorem filter_off {day : Int} {r : S41} {t : List S41} (h : onB day r = false) : (r :: t).filter (onB day) = t.filter (onB day) := by simp [h]
set_option maxHeartbeats 8000000 in
set_option maxRecDepth 100000 in
/-- The active rules, in a row of the call's own; their words lie where they lay. -/
theorem l05Of_calls (A0 : Option Addr) (c0 : Nat) (l0 : List S41) (a1 : Int) (w : World) (hr0 : Kd.C k41 w A0 l0.length l0) (hl0 : l0.length ≤ 24) :
    Calls Tryz.prog 42 #[.slice A0 l0.length c0, .int .i64 a1] w fun e w' => ∃ v0_ : Value, e = .returned v0_ ∧ OwnRow (k41.K w) 41 5 w' w.heap.size v0_ (l0.filter (onB a1)) ∧ Below w.heap.size w w' := by
  have HR := Aside0.mk hr0
  have HL := Aside0.mk hl0
  clear hr0 hl0
  go_enter Tryz.func42, Tryz.ntmps42
  go_wp2
  go_loopg [5, 6, 10] l0.length (fun gg v5 _ s10 wr => ∃ (n : Nat) (xs : List S41), n ≤ l0.length ∧ l0.length - n ≤ gg ∧ s10 = .int .i64 n ∧ Aside0 (OwnRow (k41.K w) 41 5 wr w.heap.size v5 xs) ∧ Aside0 (Below w.heap.size w wr) ∧ Aside0 (xs.length ≤ n ∧ l0.filter (onB a1) = xs ++ (l0.drop n).filter (onB a1)))
  case atStart => exact ⟨0, [], Nat.zero_le _, by omega, rfl, ⟨OwnRow.lit w w.heap.size (Reps.none _ _) (Nat.le_refl _) (by simp)⟩, ⟨below_alloc (Below.refl _ _) _⟩, ⟨Nat.zero_le _, rfl⟩⟩
  case round =>
    obtain ⟨n, xs, hn, hg, rfl, HO, HB, HI⟩ := hrel
    by_cases hlt : n < l0.length
    · have hltz : (n : Int) < (l0.length : Int) := by omega
      obtain ⟨ad, A1, c1, e, hx0, hx1, hx2, hx3, hx4, hl1, hi1⟩ := at_T41 HR.out (n : Int) (by omega) hltz
      cases e
      simp only [Int.toNat_natCast] at hx0 hx1 hx2 hx3 hx4
      replace hx0 := (HB.out.cell (World.block_lt_of_cell? w _ hx0)).trans hx0
      replace hx1 := (HB.out.cell (World.block_lt_of_cell? w _ hx1)).trans hx1
      replace hx2 := (HB.out.cell (World.block_lt_of_cell? w _ hx2)).trans hx2
      replace hx3 := (HB.out.cell (World.block_lt_of_cell? w _ hx3)).trans hx3
      replace hx4 := (HB.out.cell (World.block_lt_of_cell? w _ hx4)).trans hx4
      obtain ⟨x, hx⟩ : ∃ x, x = rd_T41 l0 (n : Int) := ⟨_, rfl⟩
      rw [← hx] at hx0 hx1 hx2 hx3 hx4 hl1 hi1
      have HS : Aside0 (l0.drop n = x :: l0.drop (n + 1)) := ⟨by rw [hx, drop_cons z41 l0 n hlt]; simp [rd_T41]⟩
      have HK := Aside0.mk (k41_mk w x hl1 hi1)
      have hcall := l05On_calls x a1 (ad.add (n * 5)) wr hx2 hx3
      clear hx hl1 hi1
      have hlen := HL.out
      cases hq : onB a1 x with
      | true =>
        rw [hq] at hcall
        have HQ := Aside0.mk hcall
        have HE := Aside0.mk (HI.out.2.trans (by rw [HS.out, filter_on hq, List.append_cons]))
        clear hcall hq
        go_wp2_with (first | (go_at_call 39; (with_reducible refine HQ.out.mono ?_); rintro e w' ⟨rfl, ⟨nd, rfl⟩⟩) | (at_builtin; refine OwnRow.append (R := k41.K w) (w0 := w) w.heap.size rfl (.tmp 18) (.tmp 23) 24 41 _ 5 56 rfl Tryz.underlying24 info41 rfl (by decide) (by omega) _ xs x [.int .i64 x.f0, .slice A1 x.f1.length c1, .int .i64 x.f2, .int .i64 x.f3, .int .i64 x.f4] rfl rfl HK.out rfl (k41.K_one HK.out) (by exact HO.out.below (pw_below_drewN (Below.refl _ _) _)) (by repeat (first | exact HB.out | apply below_alloc | apply pw_below_drewN)) (by have := HB.out.size; simp; omega) (by have := HI.out.1; omega) ?_; intro v1 w1 ho hb hg2 hat; have HO2 := Aside0.mk ho; have HB2 := Aside0.mk hb; clear ho hb hg2 hat))
        go_roundg (l0.length - (n + 1))
        case measure => omega
        case rel => exact ⟨n + 1, xs ++ [x], by omega, by omega, by go_num, HO2, HB2, ⟨by have := HI.out.1; simp; omega, HE.out⟩⟩
      | false =>
        rw [hq] at hcall
        have HQ := Aside0.mk hcall
        have HE := Aside0.mk (HI.out.2.trans (by rw [HS.out, filter_off hq]))
        clear hcall hq
        go_wp2_with (go_at_call 39; (with_reducible refine HQ.out.mono ?_); rintro e w' ⟨rfl, ⟨nd, rfl⟩⟩)
        go_roundg (l0.length - (n + 1))
        case measure => omega
        case rel => exact ⟨n + 1, xs, by omega, by omega, by go_num, ⟨HO.out.below (pw_below_drewN (Below.refl _ _) _)⟩, ⟨pw_below_drewN HB.out _⟩, ⟨by have := HI.out.1; omega, HE.out⟩⟩
    · have hltz : ¬ (n : Int) < (l0.length : Int) := by omega
      have : n = l0.length := by omega
      subst this
      have HE := Aside0.mk (show l0.filter (onB a1) = xs by have := HI.out.2; rwa [List.drop_length, List.filter_nil, List.append_nil] at this)
      go_wp2
      go_ret
      exact ⟨_, rfl, by rw [HE.out]; exact HO.out, HB.out⟩
end Go.Proofs.YtoippneeagaceaaGreat.PR

namespace Go.Proofs.YtoippneeagaceaaGreat.PR
open Go.RowKit Go.Shelf Go.Proofs.YtoippneeagaceaaGreatW.PrintWords Go.Proofs.YtoippneeagaceaaGreatW.PrintLast Go.Proofs.YtoippneeagaceaaGreatW.PrintMore
set_option linter.unusedVariables false
set_option linter.unusedSimpArgs false
/-- The place of a word. -/
def plc (x : Int) : Nat := if x < 0 then (-2 * x - 1).toNat else (2 * x - 2).toNat
theorem plc_lt {x : Int} (h : wordB x = true) : plc x < 32 := by
  rw [wordB_iff] at h; unfold plc; split <;> omega
theorem plc_inj {x y : Int} (hx : wordB x = true) (hy : wordB y = true) (h : plc x = plc y) : x = y := by
  rw [wordB_iff] at hx hy; unfold plc at h; split at h <;> split at h <;> omega
theorem place_eq {x : Int} (h : wordB x = true) : spec_l05Place.f x = some ((plc x : Nat) : Int) := by
  rw [wordB_iff] at h
  unfold spec_l05Place.f plc
  split
  · rw [wsm (x := (-2) * x) (by omega) (by omega), wsm (by omega) (by omega)]; congr 1; omega
  · rw [wsm (x := 2 * x) (by omega) (by omega), wsm (by omega) (by omega)]; congr 1; omega
theorem all_take_succ' {p : Int → Bool} {l : List Int} {n : Nat} (h : n < l.length) (ha : (l.take n).all p = true) (hx : p (l.getD n 0) = true) : (l.take (n + 1)).all p = true := by
  rw [List.take_succ_eq_append_getElem h, List.all_append, ha]
  simp [h] at hx
  simp [hx]
theorem all_false_at' {p : Int → Bool} {l : List Int} {n : Nat} (h : n < l.length) (hx : p (l.getD n 0) = false) : l.all p = false := by
  rw [← Bool.not_eq_true, List.all_eq_true]
  intro hh
  have := hh _ (List.getElem_mem h)
  simp [h] at hx
  rw [hx] at this
  exact absurd this (by simp)
set_option maxHeartbeats 4000000 in
set_option maxRecDepth 100000 in
theorem l05All_calls (g : Nat) (Y : Nat → Bool) (x : S41) (p : Addr) (A1 : Option Addr) (c1 : Nat) (w : World) (hx1 : w.cell? ⟨p.block, p.off + 1, none⟩ = some (.slice A1 x.f1.length c1))
    (hi1 : Kd.C (Kd.int .i64) w A1 x.f1.length x.f1) (hY : ∀ j, j < 32 → w.cell? ⟨g, j, none⟩ = some (.bool (Y j))) (hw : ∀ y ∈ x.f1, wordB y = true) :
    Calls Tryz.prog 104 #[.pointer (some ⟨g, 0, none⟩), .pointer (some p)] w fun e w' => e = .returned (.bool (x.f1.all fun y => Y (plc y))) ∧ Drawn0 w w' := by
  have hm : x.f1.length ≤ 9223372036854775807 := C_len hi1
  have HR := Aside0.mk hi1
  have HY := Aside0.mk hY
  have HW := Aside0.mk hw
  clear hi1 hY hw
  go_enter Tryz.func104, Tryz.ntmps104
  go_wp2
  go_loopg [5, 11] x.f1.length (fun gg _ s6 wr => ∃ n : Nat, n ≤ x.f1.length ∧ x.f1.length - n ≤ gg ∧ s6 = .int .i64 n ∧ Aside0 (Drawn0 w wr) ∧ Aside0 ((x.f1.take n).all (fun y => Y (plc y)) = true))
  case atStart => exact ⟨0, Nat.zero_le _, by omega, rfl, ⟨Drawn0.refl _⟩, ⟨rfl⟩⟩
  case round =>
    obtain ⟨n, hn, hg, rfl, HB, HI⟩ := hrel
    by_cases hlt : n < x.f1.length
    · have hltz : (n : Int) < (x.f1.length : Int) := by omega
      obtain ⟨ad, e, hc⟩ := Kd.at_int (Kd.C_below HR.out HB.out.below) (n : Int) (by omega) hltz
      cases e
      simp only [Int.toNat_natCast] at hc
      obtain ⟨y, hy⟩ : ∃ y, y = rd x.f1 (n : Int) := ⟨_, rfl⟩
      rw [← hy] at hc
      have hye : x.f1.getD n 0 = y := by rw [hy, rd_nat]
      have hwy := HW.out y (by rw [← hye]; simp [hlt])
      have hp32 := plc_lt hwy
      have hp32z : ((plc y : Nat) : Int) < 32 := by omega
      have K1 := Aside0.mk fun W => spec_l05Place.calls y ((plc y : Nat) : Int) W (place_eq hwy)
      have hx1' := (HB.out.below.cell (World.block_lt_of_cell? w _ hx1)).trans hx1
      have hYc := ((HB.out.below.cell (World.block_lt_of_cell? w _ (HY.out _ hp32))).trans (HY.out _ hp32))
      have HX := Aside0.mk hye
      clear hy hye hwy
      cases hq : Y (plc y) with
      | true =>
        rw [hq] at hYc
        have HQ := Aside0.mk hq
        clear hq
        go_wp2
        go_quiet ((go_at_call 56; (with_reducible refine (K1.out _).mono ?_); rintro e w' ⟨rfl, ⟨nd, rfl⟩⟩; exact ⟨rfl, _, World.drewN_drewN _ _ _⟩))
        go_wp2
        go_roundg (x.f1.length - (n + 1))
        case measure => omega
        case rel => exact ⟨n + 1, by omega, by omega, by go_num, ⟨HB.out.step _⟩, ⟨all_take_succ' hlt HI.out (by rw [HX.out]; exact HQ.out)⟩⟩
      | false =>
        rw [hq] at hYc
        have HQ := Aside0.mk hq
        clear hq
        go_wp2
        go_quiet ((go_at_call 56; (with_reducible refine (K1.out _).mono ?_); rintro e w' ⟨rfl, ⟨nd, rfl⟩⟩; exact ⟨rfl, _, World.drewN_drewN _ _ _⟩))
        go_wp2
        go_ret
        refine ⟨?_, HB.out.step _⟩
        rw [all_false_at' hlt (show (fun y => Y (plc y)) (x.f1.getD n 0) = false by rw [HX.out]; exact HQ.out)]
        rfl
    · have hltz : ¬ (n : Int) < (x.f1.length : Int) := by omega
      have : n = x.f1.length := by omega
      subst this
      have HA := Aside0.mk (show (x.f1.all fun y => Y (plc y)) = true by have := HI.out; rwa [List.take_length] at this)
      go_wp2
      go_ret
      exact ⟨by rw [HA.out]; rfl, HB.out⟩
theorem any_take_succ' {p : Int → Bool} {l : List Int} {n : Nat} (h : n < l.length) (ha : (l.take n).any p = false) (hx : p (l.getD n 0) = false) : (l.take (n + 1)).any p = false := by
  rw [List.take_succ_eq_append_getElem h, List.any_append, ha]
  simp [h] at hx
  simp [hx]
theorem any_true_at' {p : Int → Bool} {l : List Int} {n : Nat} (h : n < l.length) (hx : p (l.getD n 0) = true) : l.any p = true := by
  rw [List.any_eq_true]
  simp [h] at hx
  exact ⟨_, List.getElem_mem h, hx⟩
set_option maxHeartbeats 4000000 in
set_option maxRecDepth 100000 in
theorem l05Some_calls (g : Nat) (N : Nat → Bool) (x : S41) (p : Addr) (A1 : Option Addr) (c1 : Nat) (w : World) (hx1 : w.cell? ⟨p.block, p.off + 1, none⟩ = some (.slice A1 x.f1.length c1))
    (hi1 : Kd.C (Kd.int .i64) w A1 x.f1.length x.f1) (hY : ∀ j, j < 32 → w.cell? ⟨g, 32 + j, none⟩ = some (.bool (N j))) (hw : ∀ y ∈ x.f1, wordB y = true) :
    Calls Tryz.prog 105 #[.pointer (some ⟨g, 0, none⟩), .pointer (some p)] w fun e w' => e = .returned (.bool (x.f1.any fun y => N (plc y))) ∧ Drawn0 w w' := by
  have hm : x.f1.length ≤ 9223372036854775807 := C_len hi1
  have HR := Aside0.mk hi1
  have HY := Aside0.mk hY
  have HW := Aside0.mk hw
  clear hi1 hY hw
  go_enter Tryz.func105, Tryz.ntmps105
  go_wp2
  go_loopg [5, 11] x.f1.length (fun gg _ s6 wr => ∃ n : Nat, n ≤ x.f1.length ∧ x.f1.length - n ≤ gg ∧ s6 = .int .i64 n ∧ Aside0 (Drawn0 w wr) ∧ Aside0 ((x.f1.take n).any (fun y => N (plc y)) = false))
  case atStart => exact ⟨0, Nat.zero_le _, by omega, rfl, ⟨Drawn0.refl _⟩, ⟨rfl⟩⟩
  case round =>
    obtain ⟨n, hn, hg, rfl, HB, HI⟩ := hrel
    by_cases hlt : n < x.f1.length
    · have hltz : (n : Int) < (x.f1.length : Int) := by omega
      obtain ⟨ad, e, hc⟩ := Kd.at_int (Kd.C_below HR.out HB.out.below) (n : Int) (by omega) hltz
      cases e
      simp only [Int.toNat_natCast] at hc
      obtain ⟨y, hy⟩ : ∃ y, y = rd x.f1 (n : Int) := ⟨_, rfl⟩
      rw [← hy] at hc
      have hye : x.f1.getD n 0 = y := by rw [hy, rd_nat]
      have hwy := HW.out y (by rw [← hye]; simp [hlt])
      have hp32 := plc_lt hwy
      have hp32z : ((plc y : Nat) : Int) < 32 := by omega
      have K1 := Aside0.mk fun W => spec_l05Place.calls y ((plc y : Nat) : Int) W (place_eq hwy)
      have hx1' := (HB.out.below.cell (World.block_lt_of_cell? w _ hx1)).trans hx1
      have hYc := ((HB.out.below.cell (World.block_lt_of_cell? w _ (HY.out _ hp32))).trans (HY.out _ hp32))
      have HX := Aside0.mk hye
      clear hy hye hwy
      cases hq : N (plc y) with
      | false =>
        rw [hq] at hYc
        have HQ := Aside0.mk hq
        clear hq
        go_wp2
        go_quiet ((go_at_call 56; (with_reducible refine (K1.out _).mono ?_); rintro e w' ⟨rfl, ⟨nd, rfl⟩⟩; exact ⟨rfl, _, World.drewN_drewN _ _ _⟩))
        go_wp2
        go_roundg (x.f1.length - (n + 1))
        case measure => omega
        case rel => exact ⟨n + 1, by omega, by omega, by go_num, ⟨HB.out.step _⟩, ⟨any_take_succ' hlt HI.out (by rw [HX.out]; exact HQ.out)⟩⟩
      | true =>
        rw [hq] at hYc
        have HQ := Aside0.mk hq
        clear hq
        go_wp2
        go_quiet ((go_at_call 56; (with_reducible refine (K1.out _).mono ?_); rintro e w' ⟨rfl, ⟨nd, rfl⟩⟩; exact ⟨rfl, _, World.drewN_drewN _ _ _⟩))
        go_wp2
        go_ret
        refine ⟨?_, HB.out.step _⟩
        rw [any_true_at' hlt (show (fun y => N (plc y)) (x.f1.getD n 0) = true by rw [HX.out]; exact HQ.out)]
        rfl
    · have hltz : ¬ (n : Int) < (x.f1.length : Int) := by omega
      have : n = x.f1.length := by omega
      subst this
      have HA := Aside0.mk (show (x.f1.any fun y => N (plc y)) = false by have := HI.out; rwa [List.take_length] at this)
      go_wp2
      go_ret
      exact ⟨by rw [HA.out]; rfl, HB.out⟩
end Go.Proofs.YtoippneeagaceaaGreat.PR

namespace Go.Proofs.YtoippneeagaceaaGreat.PR
open Go.RowKit Go.Shelf Go.Proofs.YtoippneeagaceaaGreatW.PrintWords Go.Proofs.YtoippneeagaceaaGreatW.PrintLast Go.Proofs.YtoippneeagaceaaGreatW.PrintMore
set_option linter.unusedVariables false
set_option linter.unusedSimpArgs false
/-- Element n of a list of rules, as the walk finds it in a later world. -/
theorem elem41 {w wr : World} {A : Option Addr} {xs : List S41} {n : Nat} (HR : Kd.C k41 w A xs.length xs) (HB : Below w.heap.size w wr) (hlt : n < xs.length) :
    ∃ (ad : Addr) (A1 : Option Addr) (c1 : Nat) (x : S41), A = some ad ∧ xs.getD n z41 = x ∧ x ∈ xs ∧ xs.drop n = x :: xs.drop (n + 1) ∧
      wr.cell? (ad.add (n * 5)) = some (.int .i64 x.f0) ∧ wr.cell? ⟨(ad.add (n * 5)).block, (ad.add (n * 5)).off + 1, none⟩ = some (.slice A1 x.f1.length c1) ∧
      wr.cell? ⟨(ad.add (n * 5)).block, (ad.add (n * 5)).off + 2, none⟩ = some (.int .i64 x.f2) ∧ wr.cell? ⟨(ad.add (n * 5)).block, (ad.add (n * 5)).off + 3, none⟩ = some (.int .i64 x.f3) ∧
      wr.cell? ⟨(ad.add (n * 5)).block, (ad.add (n * 5)).off + 4, none⟩ = some (.int .i64 x.f4) ∧ x.f1.length ≤ c1 ∧ Kd.C (Kd.int .i64) wr A1 x.f1.length x.f1 := by
  obtain ⟨ad, A1, c1, e, hx0, hx1, hx2, hx3, hx4, hl1, hi1⟩ := at_T41 (Kd.C_below HR HB) (n : Int) (by omega) (by omega)
  simp only [Int.toNat_natCast] at hx0 hx1 hx2 hx3 hx4
  have hx : rd_T41 xs (n : Int) = xs.getD n z41 := by simp [rd_T41]
  refine ⟨ad, A1, c1, rd_T41 xs (n : Int), e, hx.symm, ?_, ?_, hx0, hx1, hx2, hx3, hx4, hl1, hi1⟩
  · rw [hx]; simp [hlt]
  · rw [hx]; exact drop_cons z41 xs n hlt
def headAll (P : Int → Bool) (x : Int) (r : S41) : Bool := r.f0 == x && r.f1.all P
/-- Whether rules prove a word: P: what is proved, D: what is disproved. -/
def beatenB (P : Int → Bool) (rules : List S41) (x rank : Int) : Bool := rules.any fun t => headAll P x t && decide (t.f4 > rank)
def provedB (P D : Int → Bool) (rules : List S41) (x : Int) : Bool := rules.any (headAll P x) && rules.all fun s => s.f0 != -x || s.f1.any D || beatenB P rules x s.f4
theorem any_snoc41 {p : S41 → Bool} {l : List S41} {n : Nat} (h : n < l.length) {x : S41} (hx : l.getD n z41 = x) : (l.take (n + 1)).any p = ((l.take n).any p || p x) := by
  rw [List.take_succ_eq_append_getElem h, List.any_append]
  simp [h] at hx
  simp [hx]
theorem all_snoc41 {p : S41 → Bool} {l : List S41} {n : Nat} (h : n < l.length) {x : S41} (hx : l.getD n z41 = x) : (l.take (n + 1)).all p = ((l.take n).all p && p x) := by
  rw [List.take_succ_eq_append_getElem h, List.all_append]
  simp [h] at hx
  simp [hx]
set_option maxHeartbeats 8000000 in
set_option maxRecDepth 100000 in
theorem l05Proved_calls (g : Nat) (Y N : Nat → Bool) (A0 : Option Addr) (c0 : Nat) (l0 : List S41) (a : Int) (w : World) (hr0 : Kd.C k41 w A0 l0.length l0)
    (hY : ∀ j, j < 32 → w.cell? ⟨g, j, none⟩ = some (.bool (Y j))) (hN : ∀ j, j < 32 → w.cell? ⟨g, 32 + j, none⟩ = some (.bool (N j))) (hw : ∀ r ∈ l0, ∀ y ∈ r.f1, wordB y = true) (ha : -16 ≤ a) (ha' : a ≤ 16) :
    Calls Tryz.prog 82 #[.pointer (some ⟨g, 0, none⟩), .slice A0 l0.length c0, .int .i64 a] w fun e w' => e = .returned (.bool (provedB (fun y => Y (plc y)) (fun y => N (plc y)) l0 a)) ∧ Drawn0 w w' := by
  have hm : l0.length ≤ 9223372036854775807 := C_len hr0
  have HR := Aside0.mk hr0
  have HY := Aside0.mk hY
  have HN := Aside0.mk hN
  have HW := Aside0.mk hw
  clear hr0 hY hN hw
  obtain ⟨P, hP⟩ : ∃ P : Int → Bool, P = fun y => Y (plc y) := ⟨_, rfl⟩
  obtain ⟨D, hD⟩ : ∃ D : Int → Bool, D = fun y => N (plc y) := ⟨_, rfl⟩
  have KA := Aside0.mk fun (x : S41) (p : Addr) (A1 : Option Addr) (c1 : Nat) (W : World) (hB : Below w.heap.size w W) (hx1 : W.cell? ⟨p.block, p.off + 1, none⟩ = some (.slice A1 x.f1.length c1)) (hi1 : Kd.C (Kd.int .i64) W A1 x.f1.length x.f1) (hm : x ∈ l0) =>
    l05All_calls g Y x p A1 c1 W hx1 hi1 (fun j hj => (hB.cell (World.block_lt_of_cell? w _ (HY.out j hj))).trans (HY.out j hj)) (HW.out x hm)
  have KS := Aside0.mk fun (x : S41) (p : Addr) (A1 : Option Addr) (c1 : Nat) (W : World) (hB : Below w.heap.size w W) (hx1 : W.cell? ⟨p.block, p.off + 1, none⟩ = some (.slice A1 x.f1.length c1)) (hi1 : Kd.C (Kd.int .i64) W A1 x.f1.length x.f1) (hm : x ∈ l0) =>
    l05Some_calls g N x p A1 c1 W hx1 hi1 (fun j hj => (hB.cell (World.block_lt_of_cell? w _ (HN.out j hj))).trans (HN.out j hj)) (HW.out x hm)
  rw [← hP] at KA
  rw [← hD] at KS
  rw [← hP, ← hD]
  clear hP hD
  go_enter Tryz.func82, Tryz.ntmps82
  go_wp2
  go_loopg [7, 8, 14] l0.length (fun gg v7 _ s14 wr => ∃ n : Nat, n ≤ l0.length ∧ l0.length - n ≤ gg ∧ s14 = .int .i64 n ∧ v7 = .bool ((l0.take n).any (headAll P a)) ∧ Aside0 (Drawn0 w wr))
  case atStart => exact ⟨0, Nat.zero_le _, by omega, rfl, rfl, ⟨Drawn0.refl _⟩⟩
  case round =>
    obtain ⟨n, hn, hg, rfl, rfl, HB⟩ := hrel
    by_cases hlt : n < l0.length
    · have hltz : (n : Int) < (l0.length : Int) := by omega
      obtain ⟨ad, A1, c1, x, e, hge, hmem, hdr, hx0, hx1, hx2, hx3, hx4, hl1, hi1⟩ := elem41 HR.out HB.out.below hlt
      cases e
      have hcall := KA.out x (ad.add (n * 5)) A1 c1 wr HB.out.below hx1 hi1 hmem
      have HS := Aside0.mk (any_snoc41 (p := headAll P a) hlt hge)
      clear hge hmem hdr hx1 hx2 hx3 hx4 hl1 hi1
      cases hb : (l0.take n).any (headAll P a) with
      | true =>
        rw [hb] at HS
        go_wp2
        go_roundg (l0.length - (n + 1))
        case measure => omega
        case rel => exact ⟨n + 1, by omega, by omega, by go_num, by rw [HS.out]; rfl, HB⟩
      | false =>
        rw [hb] at HS
        cases h1 : (x.f0 == a) with
        | false =>
          have HE := Aside0.mk (HS.out.trans (show (false || headAll P a x) = false by simp only [headAll, h1, Bool.false_and, Bool.or_false]))
          go_wp2
          go_roundg (l0.length - (n + 1))
          case measure => omega
          case rel => exact ⟨n + 1, by omega, by omega, by go_num, by rw [HE.out], HB⟩
        | true =>
          cases h2 : x.f1.all P with
          | false =>
            rw [h2] at hcall
            have HK := Aside0.mk hcall
            have HE := Aside0.mk (HS.out.trans (show (false || headAll P a x) = false by simp only [headAll, h1, h2, Bool.and_false, Bool.or_false]))
            clear hcall h2
            go_wp2_with (go_at_call 104; (with_reducible refine HK.out.mono ?_); rintro e w' ⟨rfl, ⟨nd, rfl⟩⟩)
            go_roundg (l0.length - (n + 1))
            case measure => omega
            case rel => exact ⟨n + 1, by omega, by omega, by go_num, by rw [HE.out], ⟨HB.out.step _⟩⟩
          | true =>
            rw [h2] at hcall
            have HK := Aside0.mk hcall
            have HE := Aside0.mk (HS.out.trans (show (false || headAll P a x) = true by simp only [headAll, h1, h2, Bool.and_true, Bool.or_true]))
            clear hcall h2
            go_wp2_with (go_at_call 104; (with_reducible refine HK.out.mono ?_); rintro e w' ⟨rfl, ⟨nd, rfl⟩⟩)
            go_roundg (l0.length - (n + 1))
            case measure => omega
            case rel => exact ⟨n + 1, by omega, by omega, by go_num, by rw [HE.out], ⟨HB.out.step _⟩⟩
    · have hltz : ¬ (n : Int) < (l0.length : Int) := by omega
      have : n = l0.length := by omega
      subst this
      have HT := Aside0.mk (show l0.take l0.length = l0 from List.take_length)
      cases hb : (l0.take l0.length).any (headAll P a) with
      | false =>
        have HE := Aside0.mk (show provedB P D l0 a = false by unfold provedB; rw [HT.out] at hb; rw [hb, Bool.false_and])
        go_wp2
        go_ret
        exact ⟨by rw [HE.out]; rfl, HB.out⟩
      | true =>
        have HF := Aside0.mk (show provedB P D l0 a = l0.all (fun s => s.f0 != -a || s.f1.any D || beatenB P l0 a s.f4) by unfold provedB; rw [HT.out] at hb; rw [hb, Bool.true_and])
        clear hb
        go_wp2
        go_loopg [9, 10, 11, 39] l0.length (fun gg _ _ _ s39 w2 => ∃ n : Nat, n ≤ l0.length ∧ l0.length - n ≤ gg ∧ s39 = .int .i64 n ∧ Aside0 ((l0.take n).all (fun s => s.f0 != -a || s.f1.any D || beatenB P l0 a s.f4) = true) ∧ Aside0 (Drawn0 w w2))
        case atStart => exact ⟨0, Nat.zero_le _, by omega, rfl, ⟨rfl⟩, HB⟩
        case round =>
          clear HB
          obtain ⟨n, hn, hg2, rfl, HI, HB2⟩ := hrel
          by_cases hlt : n < l0.length
          · have hltz : (n : Int) < (l0.length : Int) := by omega
            obtain ⟨ad, A1, c1, x, e, hge, hmem, hdr, hx0, hx1, hx2, hx3, hx4, hl1, hi1⟩ := elem41 HR.out (Below.refl _ _) hlt
            cases e
            have HX0 := Aside0.mk hx0
            have HX1 := Aside0.mk hx1
            have HX4 := Aside0.mk hx4
            have hcall := fun W (hB : Below w.heap.size w W) => KS.out x (ad.add (n * 5)) A1 c1 W hB (pw_cell_below hB HX1.out) (Kd.C_below hi1 hB) hmem
            have HS := Aside0.mk (all_snoc41 (p := fun s => s.f0 != -a || s.f1.any D || beatenB P l0 a s.f4) hlt hge)
            have HG := Aside0.mk hge
            clear hge hmem hdr hx0 hx1 hx2 hx3 hx4 hl1 hi1
            have hx0 := pw_cell_below HB2.out.below HX0.out
            cases h1 : (x.f0 != -a) with
            | true =>
              have HE := Aside0.mk (HS.out.trans (show ((l0.take n).all (fun s => s.f0 != -a || s.f1.any D || beatenB P l0 a s.f4) && (x.f0 != -a || x.f1.any D || beatenB P l0 a x.f4)) = true by rw [HI.out, h1]; rfl))
              clear hcall
              go_wp2
              go_roundg (l0.length - (n + 1))
              case measure => omega
              case rel => exact ⟨n + 1, by omega, by omega, by go_num, HE, HB2⟩
            | false =>
              cases h2 : x.f1.any D with
              | true =>
                rw [h2] at hcall
                have HK := Aside0.mk (hcall wr HB2.out.below)
                have HE := Aside0.mk (HS.out.trans (show ((l0.take n).all (fun s => s.f0 != -a || s.f1.any D || beatenB P l0 a s.f4) && (x.f0 != -a || x.f1.any D || beatenB P l0 a x.f4)) = true by rw [HI.out, h1, h2]; rfl))
                clear hcall h2
                go_wp2_with (go_at_call 105; (with_reducible refine HK.out.mono ?_); rintro e w' ⟨rfl, ⟨nd, rfl⟩⟩)
                go_roundg (l0.length - (n + 1))
                case measure => omega
                case rel => exact ⟨n + 1, by omega, by omega, by go_num, HE, ⟨HB2.out.step _⟩⟩
              | false =>
                rw [h2] at hcall
                have HK := Aside0.mk (hcall wr HB2.out.below)
                have HE0 := Aside0.mk (HS.out.trans (show ((l0.take n).all (fun s => s.f0 != -a || s.f1.any D || beatenB P l0 a s.f4) && (x.f0 != -a || x.f1.any D || beatenB P l0 a x.f4)) = beatenB P l0 a x.f4 by rw [HI.out, h1, h2]; rfl))
                have HL := Aside0.mk (fun (hb : beatenB P l0 a x.f4 = false) => all_false_at (p := fun s => s.f0 != -a || s.f1.any D || beatenB P l0 a s.f4) hlt (by rw [HG.out]; show (x.f0 != -a || x.f1.any D || beatenB P l0 a x.f4) = false; rw [h1, h2, hb]; rfl))
                clear hcall h2
                go_wp2_with (go_at_call 105; (with_reducible refine HK.out.mono ?_); rintro e w' ⟨rfl, ⟨nd, rfl⟩⟩)
                go_loopg [10, 11, 59] l0.length (fun gg v10 _ s59 w3 => ∃ m : Nat, m ≤ l0.length ∧ l0.length - m ≤ gg ∧ s59 = .int .i64 m ∧ v10 = .bool ((l0.take m).any (fun t => headAll P a t && decide (t.f4 > x.f4))) ∧ Aside0 (Drawn0 w w3))
                case atStart => exact ⟨0, Nat.zero_le _, by omega, rfl, rfl, ⟨HB2.out.step _⟩⟩
                case round =>
                  clear HB2 hx0
                  obtain ⟨m, hm3, hg3, rfl, rfl, HB3⟩ := hrel
                  by_cases hlt3 : m < l0.length
                  · have hltz3 : (m : Int) < (l0.length : Int) := by omega
                    obtain ⟨ad3, A3, c3, t, e3, hge3, hmem3, hdr3, hy0, hy1, hy2, hy3, hy4, hl3, hi3⟩ := elem41 HR.out HB3.out.below hlt3
                    obtain rfl : ad = ad3 := by injection e3
                    have hx4 := pw_cell_below HB3.out.below HX4.out
                    have hcall3 := fun k => KA.out t (ad.add (m * 5)) A3 c3 (wr.drewN k) (pw_below_drewN HB3.out.below k) hy1 (Kd.C_below hi3 (pw_below_drewN (Below.refl _ _) k)) hmem3
                    have HS3 := Aside0.mk (any_snoc41 (p := fun t => headAll P a t && decide (t.f4 > x.f4)) hlt3 hge3)
                    clear e3 hge3 hmem3 hdr3 hy1 hy2 hy3 hl3 hi3
                    cases hb : (l0.take m).any (fun t => headAll P a t && decide (t.f4 > x.f4)) with
                    | true =>
                      have HE := Aside0.mk (show (l0.take (m + 1)).any (fun t => headAll P a t && decide (t.f4 > x.f4)) = true by rw [HS3.out, hb]; rfl)
                      clear hcall3 hb
                      go_wp2
                      go_quiet (fail)
                      go_wp2
                      go_roundg (l0.length - (m + 1))
                      case measure => omega
                      case rel => exact ⟨m + 1, by omega, by omega, by go_num, by rw [HE.out], ⟨by repeat (first | exact HB3.out | apply Drawn0.step)⟩⟩
                    | false =>
                      cases h3 : (t.f0 == a) with
                      | false =>
                        have HE := Aside0.mk (show (l0.take (m + 1)).any (fun t => headAll P a t && decide (t.f4 > x.f4)) = false by rw [HS3.out, hb]; simp only [headAll, h3, Bool.false_and, Bool.or_false])
                        clear hcall3 hb
                        go_wp2
                        go_quiet (fail)
                        go_wp2
                        go_roundg (l0.length - (m + 1))
                        case measure => omega
                        case rel => exact ⟨m + 1, by omega, by omega, by go_num, by rw [HE.out], ⟨by repeat (first | exact HB3.out | apply Drawn0.step)⟩⟩
                      | true =>
                        cases h4 : t.f1.all P with
                        | false =>
                          rw [h4] at hcall3
                          have HK := Aside0.mk hcall3
                          have HE := Aside0.mk (show (l0.take (m + 1)).any (fun t => headAll P a t && decide (t.f4 > x.f4)) = false by rw [HS3.out, hb]; simp only [headAll, h3, h4, Bool.false_and, Bool.and_false, Bool.or_false])
                          clear hcall3 hb h4
                          go_wp2
                          go_quiet ((go_at_call 104; (with_reducible refine (HK.out _).mono ?_); rintro e w' ⟨rfl, ⟨nd, rfl⟩⟩; exact ⟨rfl, _, World.drewN_drewN _ _ _⟩))
                          go_wp2
                          go_roundg (l0.length - (m + 1))
                          case measure => omega
                          case rel => exact ⟨m + 1, by omega, by omega, by go_num, by rw [HE.out], ⟨by repeat (first | exact HB3.out | apply Drawn0.step)⟩⟩
                        | true =>
                          rw [h4] at hcall3
                          have HK := Aside0.mk hcall3
                          cases h5 : decide (x.f4 < t.f4) with
                          | false =>
                            have HE := Aside0.mk (show (l0.take (m + 1)).any (fun t => headAll P a t && decide (t.f4 > x.f4)) = false by rw [HS3.out, hb]; simp only [headAll, h3, h4, gt_iff_lt, h5, Bool.and_false, Bool.or_false])
                            clear hcall3 hb h4
                            go_wp2
                            go_quiet ((go_at_call 104; (with_reducible refine (HK.out _).mono ?_); rintro e w' ⟨rfl, ⟨nd, rfl⟩⟩; exact ⟨rfl, _, World.drewN_drewN _ _ _⟩))
                            go_wp2
                            go_roundg (l0.length - (m + 1))
                            case measure => omega
                            case rel => exact ⟨m + 1, by omega, by omega, by go_num, by rw [HE.out], ⟨by repeat (first | exact HB3.out | apply Drawn0.step)⟩⟩
                          | true =>
                            have HE := Aside0.mk (show (l0.take (m + 1)).any (fun t => headAll P a t && decide (t.f4 > x.f4)) = true by rw [HS3.out, hb]; simp only [headAll, h3, h4, gt_iff_lt, h5, Bool.and_true, Bool.or_true])
                            clear hcall3 hb h4
                            go_wp2
                            go_quiet ((go_at_call 104; (with_reducible refine (HK.out _).mono ?_); rintro e w' ⟨rfl, ⟨nd, rfl⟩⟩; exact ⟨rfl, _, World.drewN_drewN _ _ _⟩))
                            go_wp2
                            go_roundg (l0.length - (m + 1))
                            case measure => omega
                            case rel => exact ⟨m + 1, by omega, by omega, by go_num, by rw [HE.out], ⟨by repeat (first | exact HB3.out | apply Drawn0.step)⟩⟩
                  · have hltz3 : ¬ (m : Int) < (l0.length : Int) := by omega
                    have : m = l0.length := by omega
                    subst this
                    cases hb : (l0.take l0.length).any (fun t => headAll P a t && decide (t.f4 > x.f4)) with
                    | true =>
                      have HE := Aside0.mk (HE0.out.trans (show beatenB P l0 a x.f4 = true by rw [HT.out] at hb; exact hb))
                      clear hb
                      go_wp2
                      go_roundg (l0.length - (n + 1))
                      case measure => omega
                      case rel => exact ⟨n + 1, by omega, by omega, by go_num, HE, HB3⟩
                    | false =>
                      have HE := Aside0.mk (HF.out.trans (HL.out (show beatenB P l0 a x.f4 = false by rw [HT.out] at hb; exact hb)))
                      clear hb
                      go_wp2
                      go_ret
                      exact ⟨by rw [HE.out]; rfl, HB3.out⟩
          · have hltz : ¬ (n : Int) < (l0.length : Int) := by omega
            have : n = l0.length := by omega
            subst this
            have HE := Aside0.mk (HF.out.trans (show l0.all (fun s => s.f0 != -a || s.f1.any D || beatenB P l0 a s.f4) = true by have := HI.out; rwa [HT.out] at this))
            go_wp2
            go_ret
            exact ⟨by rw [HE.out]; rfl, HB2.out⟩
end Go.Proofs.YtoippneeagaceaaGreat.PR

namespace Go.Proofs.YtoippneeagaceaaGreat.PR
open Go.RowKit Go.Shelf Go.Proofs.YtoippneeagaceaaGreatW.PrintWords Go.Proofs.YtoippneeagaceaaGreatW.PrintLast Go.Proofs.YtoippneeagaceaaGreatW.PrintMore
set_option linter.unusedVariables false
set_option linter.unusedSimpArgs false
/-- Rule t for the word a doesn't stand against rule s: it fails, or isn't of higher rank. -/
def allG (D : Int → Bool) (a : Int) (s t : S41) : Bool := !(t.f0 == a && !t.f1.any D && decide (t.f4 > s.f4))
/-- Rule s for the opposite of a holds, and no rule for a stands against it. -/
def beatsG (P D : Int → Bool) (rules : List S41) (a : Int) (s : S41) : Bool := !(s.f0 != -a) && s.f1.all P && rules.all (allG D a s)
def beatsB (P D : Int → Bool) (rules : List S41) (a : Int) : Bool := rules.any (beatsG P D rules a)
/-- Whether rules disprove a word: P: what is proved, D: what is disproved. -/
def disprovedB (P D : Int → Bool) (rules : List S41) (a : Int) : Bool := rules.all fun r => !(r.f0 == a) || r.f1.any D || beatsB P D rules a
set_option maxHeartbeats 8000000 in
set_option maxRecDepth 100000 in
theorem l05Disproved_calls (g : Nat) (Y N : Nat → Bool) (A0 : Option Addr) (c0 : Nat) (l0 : List S41) (a : Int) (w : World) (hr0 : Kd.C k41 w A0 l0.length l0)
    (hY : ∀ j, j < 32 → w.cell? ⟨g, j, none⟩ = some (.bool (Y j))) (hN : ∀ j, j < 32 → w.cell? ⟨g, 32 + j, none⟩ = some (.bool (N j))) (hw : ∀ r ∈ l0, ∀ y ∈ r.f1, wordB y = true) (ha : -16 ≤ a) (ha' : a ≤ 16) :
    Calls Tryz.prog 83 #[.pointer (some ⟨g, 0, none⟩), .slice A0 l0.length c0, .int .i64 a] w fun e w' => e = .returned (.bool (disprovedB (fun y => Y (plc y)) (fun y => N (plc y)) l0 a)) ∧ Drawn0 w w' := by
  have hm : l0.length ≤ 9223372036854775807 := C_len hr0
  have HR := Aside0.mk hr0
  have HY := Aside0.mk hY
  have HN := Aside0.mk hN
  have HW := Aside0.mk hw
  clear hr0 hY hN hw
  obtain ⟨P, hP⟩ : ∃ P : Int → Bool, P = fun y => Y (plc y) := ⟨_, rfl⟩
  obtain ⟨D, hD⟩ : ∃ D : Int → Bool, D = fun y => N (plc y) := ⟨_, rfl⟩
  have KA := Aside0.mk fun (x : S41) (p : Addr) (A1 : Option Addr) (c1 : Nat) (W : World) (hB : Below w.heap.size w W) (hx1 : W.cell? ⟨p.block, p.off + 1, none⟩ = some (.slice A1 x.f1.length c1)) (hi1 : Kd.C (Kd.int .i64) W A1 x.f1.length x.f1) (hm : x ∈ l0) =>
    l05All_calls g Y x p A1 c1 W hx1 hi1 (fun j hj => (hB.cell (World.block_lt_of_cell? w _ (HY.out j hj))).trans (HY.out j hj)) (HW.out x hm)
  have KS := Aside0.mk fun (x : S41) (p : Addr) (A1 : Option Addr) (c1 : Nat) (W : World) (hB : Below w.heap.size w W) (hx1 : W.cell? ⟨p.block, p.off + 1, none⟩ = some (.slice A1 x.f1.length c1)) (hi1 : Kd.C (Kd.int .i64) W A1 x.f1.length x.f1) (hm : x ∈ l0) =>
    l05Some_calls g N x p A1 c1 W hx1 hi1 (fun j hj => (hB.cell (World.block_lt_of_cell? w _ (HN.out j hj))).trans (HN.out j hj)) (HW.out x hm)
  rw [← hP] at KA
  rw [← hD] at KS
  rw [← hP, ← hD]
  clear hP hD
  have HT := Aside0.mk (show l0.take l0.length = l0 from List.take_length)
  go_enter Tryz.func83, Tryz.ntmps83
  go_wp2
  go_loopg [7, 8, 9, 10, 14] l0.length (fun gg v7 _ _ _ s14 wr => ∃ n : Nat, n ≤ l0.length ∧ l0.length - n ≤ gg ∧ s14 = .int .i64 n ∧ v7 = .bool ((l0.take n).any (beatsG P D l0 a)) ∧ Aside0 (Drawn0 w wr))
  case atStart => exact ⟨0, Nat.zero_le _, by omega, rfl, rfl, ⟨Drawn0.refl _⟩⟩
  case round =>
    obtain ⟨n, hn, hg, rfl, rfl, HB⟩ := hrel
    by_cases hlt : n < l0.length
    · have hltz : (n : Int) < (l0.length : Int) := by omega
      obtain ⟨ad, A1, c1, x, e, hge, hmem, hdr, hx0, hx1, hx2, hx3, hx4, hl1, hi1⟩ := elem41 HR.out (Below.refl _ _) hlt
      cases e
      have HX0 := Aside0.mk hx0
      have HX1 := Aside0.mk hx1
      have HX4 := Aside0.mk hx4
      have hcall := fun W (hB : Below w.heap.size w W) => KA.out x (ad.add (n * 5)) A1 c1 W hB (pw_cell_below hB HX1.out) (Kd.C_below hi1 hB) hmem
      have HS := Aside0.mk (any_snoc41 (p := beatsG P D l0 a) hlt hge)
      clear hge hmem hdr hx0 hx1 hx2 hx3 hx4 hl1 hi1
      have hx0 := pw_cell_below HB.out.below HX0.out
      cases h1 : (x.f0 != -a) with
      | true =>
        have HE := Aside0.mk (HS.out.trans (show ((l0.take n).any (beatsG P D l0 a) || beatsG P D l0 a x) = (l0.take n).any (beatsG P D l0 a) by unfold beatsG; simp only [h1, Bool.not_true, Bool.false_and, Bool.or_false]))
        clear hcall
        go_wp2
        go_roundg (l0.length - (n + 1))
        case measure => omega
        case rel => exact ⟨n + 1, by omega, by omega, by go_num, by rw [HE.out], HB⟩
      | false =>
        cases h2 : x.f1.all P with
        | false =>
          rw [h2] at hcall
          have HK := Aside0.mk (hcall wr HB.out.below)
          have HE := Aside0.mk (HS.out.trans (show ((l0.take n).any (beatsG P D l0 a) || beatsG P D l0 a x) = (l0.take n).any (beatsG P D l0 a) by unfold beatsG; simp only [h1, h2, Bool.and_false, Bool.false_and, Bool.or_false]))
          clear hcall h2
          go_wp2_with (go_at_call 104; (with_reducible refine HK.out.mono ?_); rintro e w' ⟨rfl, ⟨nd, rfl⟩⟩)
          go_roundg (l0.length - (n + 1))
          case measure => omega
          case rel => exact ⟨n + 1, by omega, by omega, by go_num, by rw [HE.out], ⟨HB.out.step _⟩⟩
        | true =>
          rw [h2] at hcall
          have HK := Aside0.mk (hcall wr HB.out.below)
          have HE0 := Aside0.mk (HS.out.trans (show ((l0.take n).any (beatsG P D l0 a) || beatsG P D l0 a x) = ((l0.take n).any (beatsG P D l0 a) || l0.all (allG D a x)) by unfold beatsG; simp only [h1, h2, Bool.not_false, Bool.true_and]))
          clear hcall h2
          go_wp2_with (go_at_call 104; (with_reducible refine HK.out.mono ?_); rintro e w' ⟨rfl, ⟨nd, rfl⟩⟩)
          go_loopg [9, 10, 35] l0.length (fun gg v9 _ s35 w3 => ∃ m : Nat, m ≤ l0.length ∧ l0.length - m ≤ gg ∧ s35 = .int .i64 m ∧ v9 = .bool ((l0.take m).all (allG D a x)) ∧ Aside0 (Drawn0 w w3))
          case atStart => exact ⟨0, Nat.zero_le _, by omega, rfl, rfl, ⟨HB.out.step _⟩⟩
          case round =>
            clear HB hx0 HK
            obtain ⟨m, hm3, hg3, rfl, rfl, HB3⟩ := hrel
            by_cases hlt3 : m < l0.length
            · have hltz3 : (m : Int) < (l0.length : Int) := by omega
              obtain ⟨ad3, A3, c3, t, e3, hge3, hmem3, hdr3, hy0, hy1, hy2, hy3, hy4, hl3, hi3⟩ := elem41 HR.out HB3.out.below hlt3
              obtain rfl : ad = ad3 := by injection e3
              have hx4 := pw_cell_below HB3.out.below HX4.out
              have hcall3 := fun k => KS.out t (ad.add (m * 5)) A3 c3 (wr.drewN k) (pw_below_drewN HB3.out.below k) hy1 (Kd.C_below hi3 (pw_below_drewN (Below.refl _ _) k)) hmem3
              have HS3 := Aside0.mk (all_snoc41 (p := (allG D a x)) hlt3 hge3)
              clear e3 hge3 hmem3 hdr3 hy1 hy2 hy3 hl3 hi3
              cases h3 : (t.f0 == a) with
              | false =>
                have HE := Aside0.mk (HS3.out.trans (show ((l0.take m).all (allG D a x) && allG D a x t) = (l0.take m).all (allG D a x) by simp only [allG, h3, Bool.false_and, Bool.not_false, Bool.and_true]))
                clear hcall3
                go_wp2
                go_quiet (fail)
                go_wp2
                go_roundg (l0.length - (m + 1))
                case measure => omega
                case rel => exact ⟨m + 1, by omega, by omega, by go_num, by rw [HE.out], ⟨by repeat (first | exact HB3.out | apply Drawn0.step)⟩⟩
              | true =>
                cases h4 : t.f1.any D with
                | true =>
                  rw [h4] at hcall3
                  have HK := Aside0.mk hcall3
                  have HE := Aside0.mk (HS3.out.trans (show ((l0.take m).all (allG D a x) && allG D a x t) = (l0.take m).all (allG D a x) by simp only [allG, h4, Bool.not_true, Bool.false_and, Bool.and_false, Bool.not_false, Bool.and_true]))
                  clear hcall3 h4
                  go_wp2
                  go_quiet ((go_at_call 105; (with_reducible refine (HK.out _).mono ?_); rintro e w' ⟨rfl, ⟨nd, rfl⟩⟩; exact ⟨rfl, _, World.drewN_drewN _ _ _⟩))
                  go_wp2
                  go_roundg (l0.length - (m + 1))
                  case measure => omega
                  case rel => exact ⟨m + 1, by omega, by omega, by go_num, by rw [HE.out], ⟨by repeat (first | exact HB3.out | apply Drawn0.step)⟩⟩
                | false =>
                  rw [h4] at hcall3
                  have HK := Aside0.mk hcall3
                  cases h5 : decide (x.f4 < t.f4) with
                  | false =>
                    have HE := Aside0.mk (HS3.out.trans (show ((l0.take m).all (allG D a x) && allG D a x t) = (l0.take m).all (allG D a x) by simp only [allG, gt_iff_lt, h5, Bool.and_false, Bool.not_false, Bool.and_true]))
                    clear hcall3 h4
                    go_wp2
                    go_quiet ((go_at_call 105; (with_reducible refine (HK.out _).mono ?_); rintro e w' ⟨rfl, ⟨nd, rfl⟩⟩; exact ⟨rfl, _, World.drewN_drewN _ _ _⟩))
                    go_wp2
                    go_roundg (l0.length - (m + 1))
                    case measure => omega
                    case rel => exact ⟨m + 1, by omega, by omega, by go_num, by rw [HE.out], ⟨by repeat (first | exact HB3.out | apply Drawn0.step)⟩⟩
                  | true =>
                    have HE := Aside0.mk (HS3.out.trans (show ((l0.take m).all (allG D a x) && allG D a x t) = false by simp only [allG, gt_iff_lt, h3, h4, h5, Bool.not_false, Bool.and_true, Bool.not_true, Bool.and_false]))
                    clear hcall3 h4
                    go_wp2
                    go_quiet ((go_at_call 105; (with_reducible refine (HK.out _).mono ?_); rintro e w' ⟨rfl, ⟨nd, rfl⟩⟩; exact ⟨rfl, _, World.drewN_drewN _ _ _⟩))
                    go_wp2
                    go_roundg (l0.length - (m + 1))
                    case measure => omega
                    case rel => exact ⟨m + 1, by omega, by omega, by go_num, by rw [HE.out], ⟨by repeat (first | exact HB3.out | apply Drawn0.step)⟩⟩
            · have hltz3 : ¬ (m : Int) < (l0.length : Int) := by omega
              have : m = l0.length := by omega
              subst this
              rw [HT.out]
              cases hb : (l0.take n).any (beatsG P D l0 a) with
              | true =>
                have HE := Aside0.mk (HE0.out.trans (show ((l0.take n).any (beatsG P D l0 a) || l0.all (allG D a x)) = true by rw [hb]; rfl))
                go_wp2
                go_roundg (l0.length - (n + 1))
                case measure => omega
                case rel => exact ⟨n + 1, by omega, by omega, by go_num, by rw [HE.out], HB3⟩
              | false =>
                have HE := Aside0.mk (HE0.out.trans (show ((l0.take n).any (beatsG P D l0 a) || l0.all (allG D a x)) = l0.all (allG D a x) by rw [hb]; rfl))
                go_wp2
                go_roundg (l0.length - (n + 1))
                case measure => omega
                case rel => exact ⟨n + 1, by omega, by omega, by go_num, by rw [HE.out], HB3⟩
    · have hltz : ¬ (n : Int) < (l0.length : Int) := by omega
      have : n = l0.length := by omega
      subst this
      rw [HT.out]
      obtain ⟨bt, hbt⟩ : ∃ bt, l0.any (beatsG P D l0 a) = bt := ⟨_, rfl⟩
      rw [hbt]
      have HF := Aside0.mk (show disprovedB P D l0 a = l0.all (fun r => !(r.f0 == a) || r.f1.any D || bt) by unfold disprovedB beatsB; rw [hbt])
      clear hbt
      go_wp2
      go_loopg [11, 74] l0.length (fun gg _ s74 w2 => ∃ n : Nat, n ≤ l0.length ∧ l0.length - n ≤ gg ∧ s74 = .int .i64 n ∧ Aside0 ((l0.take n).all (fun r => !(r.f0 == a) || r.f1.any D || bt) = true) ∧ Aside0 (Drawn0 w w2))
      case atStart => exact ⟨0, Nat.zero_le _, by omega, rfl, ⟨rfl⟩, HB⟩
      case round =>
        clear HB
        obtain ⟨n, hn, hg2, rfl, HI, HB⟩ := hrel
        by_cases hlt : n < l0.length
        · have hltz : (n : Int) < (l0.length : Int) := by omega
          obtain ⟨ad, A1, c1, x, e, hge, hmem, hdr, hx0, hx1, hx2, hx3, hx4, hl1, hi1⟩ := elem41 HR.out HB.out.below hlt
          cases e
          have hcall := KS.out x (ad.add (n * 5)) A1 c1 wr HB.out.below hx1 hi1 hmem
          have HS := Aside0.mk (all_snoc41 (p := fun r => !(r.f0 == a) || r.f1.any D || bt) hlt hge)
          have HG := Aside0.mk hge
          clear hge hmem hdr hx1 hx2 hx3 hx4 hl1 hi1
          cases h1 : (x.f0 == a) with
          | false =>
            have HE := Aside0.mk (HS.out.trans (show ((l0.take n).all (fun r => !(r.f0 == a) || r.f1.any D || bt) && (!(x.f0 == a) || x.f1.any D || bt)) = true by rw [HI.out, h1]; rfl))
            clear hcall
            go_wp2
            go_roundg (l0.length - (n + 1))
            case measure => omega
            case rel => exact ⟨n + 1, by omega, by omega, by go_num, HE, HB⟩
          | true =>
            cases h2 : x.f1.any D with
            | true =>
              rw [h2] at hcall
              have HK := Aside0.mk hcall
              have HE := Aside0.mk (HS.out.trans (show ((l0.take n).all (fun r => !(r.f0 == a) || r.f1.any D || bt) && (!(x.f0 == a) || x.f1.any D || bt)) = true by rw [HI.out, h1, h2]; rfl))
              clear hcall h2
              go_wp2_with (go_at_call 105; (with_reducible refine HK.out.mono ?_); rintro e w' ⟨rfl, ⟨nd, rfl⟩⟩)
              go_roundg (l0.length - (n + 1))
              case measure => omega
              case rel => exact ⟨n + 1, by omega, by omega, by go_num, HE, ⟨HB.out.step _⟩⟩
            | false =>
              rw [h2] at hcall
              have HK := Aside0.mk hcall
              cases bt with
              | true =>
                have HE := Aside0.mk (HS.out.trans (show ((l0.take n).all (fun r => !(r.f0 == a) || r.f1.any D || true) && (!(x.f0 == a) || x.f1.any D || true)) = true by rw [HI.out, Bool.or_true]; rfl))
                clear hcall h2
                go_wp2_with (go_at_call 105; (with_reducible refine HK.out.mono ?_); rintro e w' ⟨rfl, ⟨nd, rfl⟩⟩)
                go_roundg (l0.length - (n + 1))
                case measure => omega
                case rel => exact ⟨n + 1, by omega, by omega, by go_num, HE, ⟨HB.out.step _⟩⟩
              | false =>
                have HE := Aside0.mk (HF.out.trans (all_false_at (p := fun r => !(r.f0 == a) || r.f1.any D || false) hlt (by rw [HG.out]; show (!(x.f0 == a) || x.f1.any D || false) = false; rw [h1, h2]; rfl)))
                clear hcall h2
                go_wp2_with (go_at_call 105; (with_reducible refine HK.out.mono ?_); rintro e w' ⟨rfl, ⟨nd, rfl⟩⟩)
                go_ret
                exact ⟨by rw [HE.out]; rfl, HB.out.step _⟩
        · have hltz : ¬ (n : Int) < (l0.length : Int) := by omega
          have : n = l0.length := by omega
          subst this
          have HE := Aside0.mk (HF.out.trans (show l0.all (fun r => !(r.f0 == a) || r.f1.any D || bt) = true by have := HI.out; rwa [HT.out] at this))
          go_wp2
          go_ret
          exact ⟨by rw [HE.out]; rfl, HB.out⟩
end Go.Proofs.YtoippneeagaceaaGreat.PR

namespace Go.Proofs.YtoippneeagaceaaGreat.PR
open Go.RowKit Go.Proofs.YtoippneeagaceaaGreatW.PrintWords Go.Proofs.YtoippneeagaceaaGreatW.PrintLast Go.Proofs.YtoippneeagaceaaGreatW.PrintMore
/-- P: what is proved, D: what is disproved: closed under the rules. -/
structure Closed (rules : List S41) (facts : List Int) (P D : Int → Bool) : Prop where
  fact : ∀ y ∈ facts, P y = true ∧ D (-y) = true
  yes : ∀ x, wordB x = true → x ∉ facts → -x ∉ facts → provedB P D rules x = true → P x = true
  no : ∀ x, wordB x = true → x ∉ facts → -x ∉ facts → disprovedB P D rules x = true → D x = true
def YesP (rules : List S41) (facts : List Int) (x : Int) : Prop := ∀ P D, Closed rules facts P D → P x = true
def NoP (rules : List S41) (facts : List Int) (x : Int) : Prop := ∀ P D, Closed rules facts P D → D x = true
/-- All words in rules are words. -/
def RuleWords (rules : List S41) : Prop := ∀ r ∈ rules, ∀ y ∈ r.f1, wordB y = true
theorem wordB_neg {x : Int} (h : wordB x = true) : wordB (-x) = true := by rw [wordB_iff] at h ⊢; omega
section
variable {P D P' D' : Int → Bool} {rules : List S41}
theorem headAll_mono (hw : RuleWords rules) (hP : ∀ x, wordB x = true → P x = true → P' x = true) {r : S41} (hr : r ∈ rules) {a : Int} (h : headAll P a r = true) : headAll P' a r = true := by
  unfold headAll at h ⊢
  rw [Bool.and_eq_true, List.all_eq_true] at h ⊢
  exact ⟨h.1, fun y hy => hP y (hw r hr y hy) (h.2 y hy)⟩
theorem some_mono (hw : RuleWords rules) (hD : ∀ x, wordB x = true → D x = true → D' x = true) {r : S41} (hr : r ∈ rules) (h : r.f1.any D = true) : r.f1.any D' = true := by
  rw [List.any_eq_true] at h ⊢
  obtain ⟨y, hy, hd⟩ := h
  exact ⟨y, hy, hD y (hw r hr y hy) hd⟩
theorem all_mono (hw : RuleWords rules) (hP : ∀ x, wordB x = true → P x = true → P' x = true) {r : S41} (hr : r ∈ rules) (h : r.f1.all P = true) : r.f1.all P' = true := by
  rw [List.all_eq_true] at h ⊢
  exact fun y hy => hP y (hw r hr y hy) (h y hy)
theorem proved_mono (hw : RuleWords rules) (hP : ∀ x, wordB x = true → P x = true → P' x = true) (hD : ∀ x, wordB x = true → D x = true → D' x = true) {a : Int} (h : provedB P D rules a = true) : provedB P' D' rules a = true := by
  unfold provedB at h ⊢
  rw [Bool.and_eq_true, List.any_eq_true, List.all_eq_true] at h ⊢
  obtain ⟨⟨r, hr, h1⟩, h2⟩ := h
  refine ⟨⟨r, hr, headAll_mono hw hP hr h1⟩, fun s hs => ?_⟩
  have h3 := h2 s hs
  rw [Bool.or_eq_true, Bool.or_eq_true] at h3 ⊢
  rcases h3 with (h3 | h3) | h3
  · exact .inl (.inl h3)
  · exact .inl (.inr (some_mono hw hD hs h3))
  · refine .inr ?_
    unfold beatenB at h3 ⊢
    rw [List.any_eq_true] at h3 ⊢
    obtain ⟨t, ht, h4⟩ := h3
    rw [Bool.and_eq_true] at h4
    exact ⟨t, ht, by rw [Bool.and_eq_true]; exact ⟨headAll_mono hw hP ht h4.1, h4.2⟩⟩
theorem disproved_mono (hw : RuleWords rules) (hP : ∀ x, wordB x = true → P x = true → P' x = true) (hD : ∀ x, wordB x = true → D x = true → D' x = true) {a : Int} (h : disprovedB P D rules a = true) : disprovedB P' D' rules a = true := by
  unfold disprovedB at h ⊢
  rw [List.all_eq_true] at h ⊢
  intro r hr
  have h3 := h r hr
  rw [Bool.or_eq_true, Bool.or_eq_true] at h3 ⊢
  rcases h3 with (h3 | h3) | h3
  · exact .inl (.inl h3)
  · exact .inl (.inr (some_mono hw hD hr h3))
  · refine .inr ?_
    unfold beatsB at h3 ⊢
    rw [List.any_eq_true] at h3 ⊢
    obtain ⟨s, hs, h4⟩ := h3
    refine ⟨s, hs, ?_⟩
    unfold beatsG at h4 ⊢
    rw [Bool.and_eq_true, Bool.and_eq_true] at h4 ⊢
    refine ⟨⟨h4.1.1, all_mono hw hP hs h4.1.2⟩, List.all_eq_true.2 fun t ht => ?_⟩
    have h5 := List.all_eq_true.1 h4.2 t ht
    unfold allG at h5 ⊢
    cases hd : t.f1.any D with
    | true => rw [some_mono hw hD ht hd]; simp
    | false =>
      rw [hd] at h5
      cases hd' : t.f1.any D' with
      | true => simp
      | false => exact h5
end
/-! ### states as places -/
def upd (Y : Nat → Bool) (j : Nat) : Nat → Bool := fun i => if i = j then true else Y i
def mu1 (Y : Nat → Bool) : Nat := ((List.range 32).filter fun j => !Y j).length
def mu (Y N : Nat → Bool) : Nat := mu1 Y + mu1 N
theorem filter_lt {α : Type} {p q : α → Bool} {l : List α} (h : ∀ x ∈ l, p x = true → q x = true) {z : α} (hz : z ∈ l) (hp : p z = false) (hq : q z = true) : (l.filter p).length < (l.filter q).length := by
  induction l with
  | nil => cases hz
  | cons x r ih =>
    have hle : ∀ r' : List α, (∀ x ∈ r', p x = true → q x = true) → (r'.filter p).length ≤ (r'.filter q).length := by
      intro r' hr'
      induction r' with
      | nil => simp
      | cons y t ih' =>
        have h1 := ih' (fun x hx => hr' x (List.mem_cons_of_mem _ hx))
        rw [List.filter_cons, List.filter_cons]
        cases hy : p y with
        | true => rw [hr' y List.mem_cons_self hy]; simp; exact h1
        | false => cases q y <;> simp <;> omega
    rw [List.filter_cons, List.filter_cons]
    rcases List.mem_cons.1 hz with rfl | hz
    · rw [hp, hq]
      have := hle r (fun x hx => h x (List.mem_cons_of_mem _ hx))
      simp
      omega
    · have h1 := ih (fun x hx => h x (List.mem_cons_of_mem _ hx)) hz
      cases hy : p x with
      | true => rw [h x List.mem_cons_self hy]; simp; exact h1
      | false => cases q x <;> simp <;> omega
theorem mu1_upd {Y : Nat → Bool} {j : Nat} (hj : j < 32) (h : Y j = false) : mu1 (upd Y j) < mu1 Y := by
  unfold mu1
  refine filter_lt (z := j) ?_ (List.mem_range.2 hj) (by simp [upd]) (by simp [h])
  intro i _ hi
  unfold upd at hi
  by_cases e : i = j
  · simp [e] at hi
  · simpa [e] using hi
def Sound (rules : List S41) (facts : List Int) (Y N : Nat → Bool) : Prop :=
  (∀ x, wordB x = true → Y (plc x) = true → YesP rules facts x) ∧ ∀ x, wordB x = true → N (plc x) = true → NoP rules facts x
def Based (facts : List Int) (Y N : Nat → Bool) : Prop := ∀ y ∈ facts, Y (plc y) = true ∧ N (plc (-y)) = true
def ClosedAt (rules : List S41) (facts : List Int) (Y N : Nat → Bool) (x : Int) : Prop :=
  x ∉ facts → -x ∉ facts → (provedB (fun y => Y (plc y)) (fun y => N (plc y)) rules x = true → Y (plc x) = true) ∧ (disprovedB (fun y => Y (plc y)) (fun y => N (plc y)) rules x = true → N (plc x) = true)
/-- Where a round of the reckoning stands: m0: how much was open when it began; done: the words that it has gone through. -/
structure Inv (rules : List S41) (facts : List Int) (m0 : Nat) (more : Bool) (Y N : Nat → Bool) (done : Int → Prop) : Prop where
  sound : Sound rules facts Y N
  based : Based facts Y N
  less : more = true → mu Y N < m0
  same : more = false → mu Y N = m0
  closed : more = false → ∀ x, done x → ClosedAt rules facts Y N x
theorem upd_based {facts : List Int} {Y N : Nat → Bool} (h : Based facts Y N) (j : Nat) : Based facts (upd Y j) N ∧ Based facts Y (upd N j) :=
  ⟨fun y hy => ⟨by unfold upd; split <;> simp [(h y hy).1], (h y hy).2⟩, fun y hy => ⟨(h y hy).1, by unfold upd; split <;> simp [(h y hy).2]⟩⟩
section
variable {rules : List S41} {facts : List Int} {m0 : Nat} {more : Bool} {Y N : Nat → Bool} {done : Int → Prop}
theorem Inv.yes (h : Inv rules facts m0 more Y N done) (hw : RuleWords rules) {x : Int} (hx : wordB x = true) (h1 : x ∉ facts) (h2 : -x ∉ facts) (h3 : Y (plc x) = false) (h4 : provedB (fun y => Y (plc y)) (fun y => N (plc y)) rules x = true) (done' : Int → Prop) :
    Inv rules facts m0 true (upd Y (plc x)) N done' := by
  have hmu := mu1_upd (plc_lt hx) h3
  refine ⟨⟨fun z hz hY => ?_, h.sound.2⟩, (upd_based h.based _).1, fun _ => ?_, fun e => (by cases e), fun e => (by cases e)⟩
  · unfold upd at hY
    by_cases e : plc z = plc x
    · obtain rfl := plc_inj hz hx e
      exact fun P D hc => hc.yes z hz h1 h2 (proved_mono hw (fun y hy hp => h.sound.1 y hy hp P D hc) (fun y hy hp => h.sound.2 y hy hp P D hc) h4)
    · rw [if_neg e] at hY
      exact h.sound.1 z hz hY
  · unfold mu
    cases more with
    | true => have := h.less rfl; unfold mu at this; omega
    | false => have := h.same rfl; unfold mu at this; omega
theorem Inv.no (h : Inv rules facts m0 more Y N done) (hw : RuleWords rules) {x : Int} (hx : wordB x = true) (h1 : x ∉ facts) (h2 : -x ∉ facts) (h3 : N (plc x) = false) (h4 : disprovedB (fun y => Y (plc y)) (fun y => N (plc y)) rules x = true) (done' : Int → Prop) :
    Inv rules facts m0 true Y (upd N (plc x)) done' := by
  have hmu := mu1_upd (plc_lt hx) h3
  refine ⟨⟨h.sound.1, fun z hz hY => ?_⟩, (upd_based h.based _).2, fun _ => ?_, fun e => (by cases e), fun e => (by cases e)⟩
  · unfold upd at hY
    by_cases e : plc z = plc x
    · obtain rfl := plc_inj hz hx e
      exact fun P D hc => hc.no z hz h1 h2 (disproved_mono hw (fun y hy hp => h.sound.1 y hy hp P D hc) (fun y hy hp => h.sound.2 y hy hp P D hc) h4)
    · rw [if_neg e] at hY
      exact h.sound.2 z hz hY
  · unfold mu
    cases more with
    | true => have := h.less rfl; unfold mu at this; omega
    | false => have := h.same rfl; unfold mu at this; omega
/-- A word more has been gone through; nothing has changed. -/
theorem Inv.next (h : Inv rules facts m0 more Y N done) {x : Int} (hc : more = false → ClosedAt rules facts Y N x) {done' : Int → Prop} (hd : ∀ z, done' z → done z ∨ z = x) : Inv rules facts m0 more Y N done' :=
  ⟨h.sound, h.based, h.less, h.same, fun e z hz => by
    rcases hd z hz with hz | rfl
    · exact h.closed e z hz
    · exact hc e⟩
/-- A round at whose end nothing has changed has come to the end. -/
theorem Inv.ends (h : Inv rules facts m0 false Y N done) (hd : ∀ x, wordB x = true → done x) :
    (∀ x, wordB x = true → (Y (plc x) = true ↔ YesP rules facts x)) ∧ ∀ x, wordB x = true → (N (plc x) = true ↔ NoP rules facts x) := by
  have hc : Closed rules facts (fun y => Y (plc y)) (fun y => N (plc y)) :=
    ⟨h.based, fun x hx h1 h2 => (h.closed rfl x (hd x hx) h1 h2).1, fun x hx h1 h2 => (h.closed rfl x (hd x hx) h1 h2).2⟩
  exact ⟨fun x hx => ⟨h.sound.1 x hx, fun hy => hy _ _ hc⟩, fun x hx => ⟨h.sound.2 x hx, fun hy => hy _ _ hc⟩⟩
theorem Inv.begin_ (hs : Sound rules facts Y N) (hb : Based facts Y N) : Inv rules facts (mu Y N) false Y N (fun _ => False) :=
  ⟨hs, hb, fun e => (by cases e), fun _ => rfl, fun _ _ hx => hx.elim⟩
end
end Go.Proofs.YtoippneeagaceaaGreat.PR

