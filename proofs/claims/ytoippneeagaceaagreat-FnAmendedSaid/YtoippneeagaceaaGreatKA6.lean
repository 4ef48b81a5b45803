/- Contracts and plain laws of functions of the given program: texts of this session, joined. -/
import Derived.ArgAppend
import Derived.Below
import Derived.BigCall
import Derived.BigGuard
import Derived.BigQuiet
import Derived.CellFam
import Derived.Deep.AppendLies
import Derived.Deep.Cut
import Derived.Deep.CutBlock
import Derived.Deep.DeepCutAuto
import Derived.Deep.Draws
import Derived.Deep.LoopGhost
import Derived.Deep.OwnRows
import Derived.Deep.QuietTactic
import Derived.Deep.RegionHeld3
import Derived.Deep.RegionWith
import Derived.KernelRfl
import Derived.Laws.Bits64
import Derived.Laws.Bits64b
import Derived.Laws.BitsLemmas
import Derived.Laws.BytesArg
import Derived.Laws.IdiomCopy
import Derived.Laws.MakeOwn
import Derived.Laws.OwnMore
import Derived.Laws.Rows
import Derived.Laws.Slices
import Derived.Laws.StructEq
import Derived.Lib.AppendStr
import Derived.Lib.ConvBytes
import Derived.Lib.Strings
import Derived.Lib.Walk
import Derived.Maps.AppendAt
import Derived.OrdersHeld
import Derived.OwnWalk
import Derived.RegionTactic
import Derived.RowKit
import Derived.RowKit3
import Derived.Shelf.Abstract
import Derived.Shelf.Slices.CompactI
import Derived.Shelf.Small.Bits
import Derived.Shelf.Strconv.Itoa0
import Derived.Sort.AssemblyPlain
import Derived.Sort.AtCall
import Derived.Sort.EncStr
import Derived.Sort.Grow
import Derived.Sort.LotA
import Derived.Sort.LotB
import Derived.Sort.LotC
import Derived.Sort.LotD1
import Derived.Sort.LotD3
import Derived.Sort.LotD4
import Derived.Sort.LotD5
import Derived.Sort.Row
import Derived.Sort.Walk13a
import Derived.Tactics
import Derived.Test.YtoippneeagaceaaGreatKA3
import Derived.Test.YtoippneeagaceaaGreatKA5
import Derived.Test.YtoippneeagaceaaGreatKA1
import Derived.Test.YtoippneeagaceaaGreatKA2
import Derived.Test.YtoippneeagaceaaGreatProg
import Derived.Test.YtoippneeagaceaaGreatKA4
import Derived.WalkKit
import Derived.WideLaws
import Derived.Deep.RegionHeld
import Derived.Maps.OwnSet
import Derived.WideKeyEntry
namespace Go.Proofs.YtoippneeagaceaaGreat.PR
open Go.RowKit Go.Proofs.YtoippneeagaceaaGreatW.PrintWords Go.Proofs.YtoippneeagaceaaGreatW.PrintLast Go.Proofs.YtoippneeagaceaaGreatW.PrintMore
attribute [local go_sem] max2_int min2_int max_two min_two max_three min_three max_four min_four   -- for this text's walks alone
set_option linter.unusedVariables false
set_option linter.unusedSimpArgs false
/-! ### impl_ChangeDays: function 7 -/
def impl_ChangeDays.f (l0 : List (S41)) : Option (List Int × Bool) := (impl_AreRules.f l0).bind fun t291 => (if t291 = true then ((impl_changes.f l0).bind fun t292 => (some (t292, true))) else (some (([] : List Int), false)))
set_option maxHeartbeats 8000000 in
set_option maxRecDepth 100000 in
theorem impl_ChangeDays.calls (A0 : Option Addr) (c0 : Nat) (l0 : List (S41)) (r1 : List Int) (r2 : Bool) (w : World) (hr0 : Kd.C k41 w A0 l0.length l0) (hc0 : l0.length ≤ c0) (h : impl_ChangeDays.f l0 = some (r1, r2)) :
    Calls Tryz.prog 7 #[.slice A0 l0.length c0] w fun e w' => ∃ v0_ : Value, e = .returned (.tuple #[v0_, .bool r2]) ∧ Kd.R (Kd.int .i64) 2 w' w.heap.size (fun _ => True) v0_ r1 ∧ Below w.heap.size w w' := by
  have HR0 := Aside0.mk hr0
  have HC0 := Aside0.mk hc0
  clear hr0 hc0
  have HB := Aside0.mk (Below.refl w.heap.size w)
  have H : ((impl_AreRules.f l0).bind fun t291 => (if t291 = true then ((impl_changes.f l0).bind fun t292 => (some (t292, true))) else (some (([] : List Int), false)))) = some (r1, r2) := h
  clear h
  replace H := Option.bind_eq_some_iff.mp H
  obtain ⟨t291, A20, H⟩ := H
  replace H : (if t291 = true then ((impl_changes.f l0).bind fun t292 => (some (t292, true))) else (some (([] : List Int), false))) = some (r1, r2) := H
  have A2 := Aside0.mk A20
  clear A20
  by_cases c3 : t291 = true
  · subst c3
    have H1 : ((impl_changes.f l0).bind fun t292 => (some (t292, true))) = some (r1, r2) := by rw [if_pos rfl] at H; exact H
    clear H
    have H := H1
    clear H1
    replace H := Option.bind_eq_some_iff.mp H
    obtain ⟨t292, A40, H⟩ := H
    replace H : (some (t292, true)) = some (r1, r2) := H
    have A4 := Aside0.mk A40
    clear A40
    simp only [Option.some.injEq, Prod.mk.injEq] at H
    obtain ⟨rfl, rfl⟩ := H
    go_enter Tryz.func7, Tryz.ntmps7
    go_wp2_with (first | ((with_reducible refine gate_callee (f := 29) rfl ?_); refine goesL_ (some 5) rfl rfl Tryz.func29 (by kernel_rfl) rfl #[.slice A0 l0.length c0] rfl (by (try simp only [List.map_toArray, List.map_cons, List.map_nil]); first | done | rfl | (simp only [List.length_drop, List.length_take]; rfl)) ?_; (with_reducible refine (impl_AreRules.calls _ _ l0 true _ ?side1 ?side2 A2.out).mono ?_); (case side1 => repeat (first | exact HR0.out | (with_reducible refine Kd.C_alloc ?_ _) | (with_reducible refine Kd.C_drewN ?_ _) | (with_reducible refine Kd.C_drew ?_))); (case side2 => exact HC0.out); rintro e w5 ⟨rfl, hb⟩; refine ⟨_, rfl, ?_⟩; have n0_ := Aside0.mk (below_step (by repeat (first | (with_reducible first | exact HB.out | apply below_alloc | apply pw_below_drewN | apply below_drew1) | exact HB.out)) hb); clear HB; have HB := n0_; clear n0_; (try clear hb); (try clear hb2); (try clear hk); (try clear hi)) | ((with_reducible refine gate_callee (f := 30) rfl ?_); refine goesL_ (some 8) rfl rfl Tryz.func30 (by kernel_rfl) rfl #[.slice A0 l0.length c0] rfl (by (try simp only [List.map_toArray, List.map_cons, List.map_nil]); first | done | rfl | (simp only [List.length_drop, List.length_take]; rfl)) ?_; (with_reducible refine (impl_changes.calls _ _ l0 t292 _ ?side1 ?side2 A4.out).mono ?_); (case side1 => repeat (first | exact (Kd.C_below HR0.out HB.out) | (with_reducible refine Kd.C_alloc ?_ _) | (with_reducible refine Kd.C_drewN ?_ _) | (with_reducible refine Kd.C_drew ?_))); (case side2 => exact HC0.out); rintro e w6 ⟨v293, rfl, ho0, hb⟩; refine ⟨_, rfl, ?_⟩; have n0_ := Aside0.mk (Kd.R_lower ho0 (below_size (by repeat (first | (with_reducible first | exact HB.out | apply below_alloc | apply pw_below_drewN | apply below_drew1) | exact HB.out)))); have n1_ := Aside0.mk (below_step (by repeat (first | (with_reducible first | exact HB.out | apply below_alloc | apply pw_below_drewN | apply below_drew1) | exact HB.out)) hb); clear HB; have HO294 := n0_; have HB := n1_; clear n0_ n1_; (try clear hb); (try clear hb2); (try clear hk); (try clear hi); (try clear ho0)))
    go_ret2
    exact ⟨_, by first | rfl | (simp [errW_none, errW_some] <;> rfl) | (simp [*, errW_none, errW_some] <;> rfl), by (with_reducible repeat (first | apply Kd.R_alloc | apply Kd.R_drewN | apply Kd.R_drew)); exact HO294.out, by repeat (first | (with_reducible first | exact HB.out | apply below_alloc | apply pw_below_drewN | apply below_drew1) | exact HB.out)⟩
  · replace c3 := Bool.eq_false_iff.mpr c3
    subst c3
    have H1 : (some (([] : List Int), false)) = some (r1, r2) := by rw [if_neg (show ¬ (false = true) by decide)] at H; exact H
    clear H
    have H := H1
    clear H1
    simp only [Option.some.injEq, Prod.mk.injEq] at H
    obtain ⟨rfl, rfl⟩ := H
    go_enter Tryz.func7, Tryz.ntmps7
    go_wp2_with (first | ((with_reducible refine gate_callee (f := 29) rfl ?_); refine goesL_ (some 5) rfl rfl Tryz.func29 (by kernel_rfl) rfl #[.slice A0 l0.length c0] rfl (by (try simp only [List.map_toArray, List.map_cons, List.map_nil]); first | done | rfl | (simp only [List.length_drop, List.length_take]; rfl)) ?_; (with_reducible refine (impl_AreRules.calls _ _ l0 false _ ?side1 ?side2 A2.out).mono ?_); (case side1 => repeat (first | exact HR0.out | (with_reducible refine Kd.C_alloc ?_ _) | (with_reducible refine Kd.C_drewN ?_ _) | (with_reducible refine Kd.C_drew ?_))); (case side2 => exact HC0.out); rintro e w7 ⟨rfl, hb⟩; refine ⟨_, rfl, ?_⟩; have n0_ := Aside0.mk (below_step (by repeat (first | (with_reducible first | exact HB.out | apply below_alloc | apply pw_below_drewN | apply below_drew1) | exact HB.out)) hb); clear HB; have HB := n0_; clear n0_; (try clear hb); (try clear hb2); (try clear hk); (try clear hi)))
    go_ret2
    exact ⟨_, by first | rfl | (simp [errW_none, errW_some] <;> rfl) | (simp [*, errW_none, errW_some] <;> rfl), by first | exact Kd.R_nil _ _ _ _ _ | exact Kd.N_nil _ _ _ _ _ | exact Kd.V_nil _ _ _ _ _ | exact Kd.Q_nil _ _ _ _ _ | exact Kd.S_nil _ _ _ _ _, by repeat (first | (with_reducible first | exact HB.out | apply below_alloc | apply pw_below_drewN | apply below_drew1) | exact HB.out)⟩
/-! ### spec_ChangeDays: function 8 -/
def spec_ChangeDays.f (k : Nat) (l0 : List (S41)) : Option (List Int × Bool) := (spec_l05Rules.f l0).bind fun t295 => (if t295 = true then ((spec_l05Changes.f k l0).bind fun t296 => (some (t296, true))) else (some (([] : List Int), false)))
theorem spec_ChangeDays.mono : ∀ a0 k, LeO (spec_ChangeDays.f k a0) (spec_ChangeDays.f (k + 1) a0) := by
  intro a0 k
  unfold spec_ChangeDays.f
  repeat' first
      | (with_reducible exact spec_l05Changes.mono _ _)
      | (with_reducible exact LeO.refl _)
      | (with_reducible exact LeO.none _)
      | (with_reducible refine LeO.ite ?_ ?_)
      | (with_reducible refine LeO.bind ?_ (fun _ => ?_))
      | exact spec_l05Changes.mono _ _
      | exact LeO.none _
      | refine LeO.ite ?_ ?_
      | refine LeO.bind ?_ (fun _ => ?_)
set_option maxHeartbeats 8000000 in
set_option maxRecDepth 100000 in
theorem spec_ChangeDays.calls (k : Nat) (A0 : Option Addr) (c0 : Nat) (l0 : List (S41)) (r1 : List Int) (r2 : Bool) (w : World) (hr0 : Kd.C k41 w A0 l0.length l0) (hc0 : l0.length ≤ c0) (h : spec_ChangeDays.f k l0 = some (r1, r2)) :
    Calls Tryz.prog 8 #[.slice A0 l0.length c0] w fun e w' => ∃ v0_ : Value, e = .returned (.tuple #[v0_, .bool r2]) ∧ Kd.R (Kd.int .i64) 2 w' w.heap.size (fun _ => True) v0_ r1 ∧ Below w.heap.size w w' := by
  have HR0 := Aside0.mk hr0
  have HC0 := Aside0.mk hc0
  clear hr0 hc0
  have HB := Aside0.mk (Below.refl w.heap.size w)
  have H : ((spec_l05Rules.f l0).bind fun t295 => (if t295 = true then ((spec_l05Changes.f k l0).bind fun t296 => (some (t296, true))) else (some (([] : List Int), false)))) = some (r1, r2) := h
  clear h
  replace H := Option.bind_eq_some_iff.mp H
  obtain ⟨t295, A20, H⟩ := H
  replace H : (if t295 = true then ((spec_l05Changes.f k l0).bind fun t296 => (some (t296, true))) else (some (([] : List Int), false))) = some (r1, r2) := H
  have A2 := Aside0.mk A20
  clear A20
  by_cases c3 : t295 = true
  · subst c3
    have H1 : ((spec_l05Changes.f k l0).bind fun t296 => (some (t296, true))) = some (r1, r2) := by rw [if_pos rfl] at H; exact H
    clear H
    have H := H1
    clear H1
    replace H := Option.bind_eq_some_iff.mp H
    obtain ⟨t296, A40, H⟩ := H
    replace H : (some (t296, true)) = some (r1, r2) := H
    have A4 := Aside0.mk A40
    clear A40
    simp only [Option.some.injEq, Prod.mk.injEq] at H
    obtain ⟨rfl, rfl⟩ := H
    go_enter Tryz.func8, Tryz.ntmps8
    go_wp2_with (first | ((with_reducible refine gate_callee (f := 31) rfl ?_); refine goesL_ (some 5) rfl rfl Tryz.func31 (by kernel_rfl) rfl #[.slice A0 l0.length c0] rfl (by (try simp only [List.map_toArray, List.map_cons, List.map_nil]); first | done | rfl | (simp only [List.length_drop, List.length_take]; rfl)) ?_; (with_reducible refine (spec_l05Rules.calls _ _ l0 true _ ?side1 ?side2 A2.out).mono ?_); (case side1 => repeat (first | exact HR0.out | (with_reducible refine Kd.C_alloc ?_ _) | (with_reducible refine Kd.C_drewN ?_ _) | (with_reducible refine Kd.C_drew ?_))); (case side2 => exact HC0.out); rintro e w' ⟨rfl, ⟨nd, rfl⟩⟩; refine ⟨_, rfl, ?_⟩) | ((with_reducible refine gate_callee (f := 32) rfl ?_); refine goesL_ (some 8) rfl rfl Tryz.func32 (by kernel_rfl) rfl #[.slice A0 l0.length c0] rfl (by (try simp only [List.map_toArray, List.map_cons, List.map_nil]); first | done | rfl | (simp only [List.length_drop, List.length_take]; rfl)) ?_; (with_reducible refine (spec_l05Changes.calls k _ _ l0 t296 _ ?side1 ?side2 A4.out).mono ?_); (case side1 => repeat (first | exact HR0.out | (with_reducible refine Kd.C_alloc ?_ _) | (with_reducible refine Kd.C_drewN ?_ _) | (with_reducible refine Kd.C_drew ?_))); (case side2 => exact HC0.out); rintro e w5 ⟨v297, rfl, ho0, hb⟩; refine ⟨_, rfl, ?_⟩; have n0_ := Aside0.mk (Kd.R_lower ho0 (below_size (by repeat (first | (with_reducible first | exact HB.out | apply below_alloc | apply pw_below_drewN | apply below_drew1) | exact HB.out)))); have n1_ := Aside0.mk (below_step (by repeat (first | (with_reducible first | exact HB.out | apply below_alloc | apply pw_below_drewN | apply below_drew1) | exact HB.out)) hb); clear HB; have HO298 := n0_; have HB := n1_; clear n0_ n1_; (try clear hb); (try clear hb2); (try clear hk); (try clear hi); (try clear ho0)))
    go_ret2
    exact ⟨_, by first | rfl | (simp [errW_none, errW_some] <;> rfl) | (simp [*, errW_none, errW_some] <;> rfl), by (with_reducible repeat (first | apply Kd.R_alloc | apply Kd.R_drewN | apply Kd.R_drew)); exact HO298.out, by repeat (first | (with_reducible first | exact HB.out | apply below_alloc | apply pw_below_drewN | apply below_drew1) | exact HB.out)⟩
  · replace c3 := Bool.eq_false_iff.mpr c3
    subst c3
    have H1 : (some (([] : List Int), false)) = some (r1, r2) := by rw [if_neg (show ¬ (false = true) by decide)] at H; exact H
    clear H
    have H := H1
    clear H1
    simp only [Option.some.injEq, Prod.mk.injEq] at H
    obtain ⟨rfl, rfl⟩ := H
    go_enter Tryz.func8, Tryz.ntmps8
    go_wp2_with (first | ((with_reducible refine gate_callee (f := 31) rfl ?_); refine goesL_ (some 5) rfl rfl Tryz.func31 (by kernel_rfl) rfl #[.slice A0 l0.length c0] rfl (by (try simp only [List.map_toArray, List.map_cons, List.map_nil]); first | done | rfl | (simp only [List.length_drop, List.length_take]; rfl)) ?_; (with_reducible refine (spec_l05Rules.calls _ _ l0 false _ ?side1 ?side2 A2.out).mono ?_); (case side1 => repeat (first | exact HR0.out | (with_reducible refine Kd.C_alloc ?_ _) | (with_reducible refine Kd.C_drewN ?_ _) | (with_reducible refine Kd.C_drew ?_))); (case side2 => exact HC0.out); rintro e w' ⟨rfl, ⟨nd, rfl⟩⟩; refine ⟨_, rfl, ?_⟩))
    go_ret2
    exact ⟨_, by first | rfl | (simp [errW_none, errW_some] <;> rfl) | (simp [*, errW_none, errW_some] <;> rfl), by first | exact Kd.R_nil _ _ _ _ _ | exact Kd.N_nil _ _ _ _ _ | exact Kd.V_nil _ _ _ _ _ | exact Kd.Q_nil _ _ _ _ _ | exact Kd.S_nil _ _ _ _ _, by repeat (first | (with_reducible first | exact HB.out | apply below_alloc | apply pw_below_drewN | apply below_drew1) | exact HB.out)⟩
/-! ### impl_areFacts: function 34 -/
def impl_areFacts.f (k : Nat) (l0 : List (S41)) (l1 : List Int) (a2 : Int) : Option (Bool) := (impl_AreRules.f l0).bind fun t299 => (if t299 = true then ((impl_areWords.f k l1 16).bind fun t300 => (if t300 = true then ((impl_isDate.f a2).bind fun t301 => (some t301)) else (some false))) else (some false))
theorem impl_areFacts.mono : ∀ a0 a1 a2 k, LeO (impl_areFacts.f k a0 a1 a2) (impl_areFacts.f (k + 1) a0 a1 a2) := by
  intro a0 a1 a2 k
  unfold impl_areFacts.f
  repeat' first
      | (with_reducible exact impl_areWords.mono _ _ _)
      | (with_reducible exact LeO.refl _)
      | (with_reducible exact LeO.none _)
      | (with_reducible refine LeO.ite ?_ ?_)
      | (with_reducible refine LeO.bind ?_ (fun _ => ?_))
      | exact impl_areWords.mono _ _ _
      | exact LeO.none _
      | refine LeO.ite ?_ ?_
      | refine LeO.bind ?_ (fun _ => ?_)
set_option maxHeartbeats 8000000 in
set_option maxRecDepth 100000 in
theorem impl_areFacts.calls (k : Nat) (A0 : Option Addr) (c0 : Nat) (l0 : List (S41)) (A1 : Option Addr) (c1 : Nat) (l1 : List Int) (a2 : Int) (r : Bool) (w : World) (hr0 : Kd.C k41 w A0 l0.length l0) (hc0 : l0.length ≤ c0) (hr1 : Kd.C (Kd.int .i64) w A1 l1.length l1) (hc1 : l1.length ≤ c1) (h : impl_areFacts.f k l0 l1 a2 = some r) :
    Calls Tryz.prog 34 #[.slice A0 l0.length c0, .slice A1 l1.length c1, .int .i64 a2] w fun e w' => e = .returned (.bool r) ∧ Below w.heap.size w w' := by
  have HR0 := Aside0.mk hr0
  have HC0 := Aside0.mk hc0
  clear hr0 hc0
  have HR1 := Aside0.mk hr1
  have HC1 := Aside0.mk hc1
  clear hr1 hc1
  have HB := Aside0.mk (Below.refl w.heap.size w)
  have H : ((impl_AreRules.f l0).bind fun t299 => (if t299 = true then ((impl_areWords.f k l1 16).bind fun t300 => (if t300 = true then ((impl_isDate.f a2).bind fun t301 => (some t301)) else (some false))) else (some false))) = some r := h
  clear h
  replace H := Option.bind_eq_some_iff.mp H
  obtain ⟨t299, A40, H⟩ := H
  replace H : (if t299 = true then ((impl_areWords.f k l1 16).bind fun t300 => (if t300 = true then ((impl_isDate.f a2).bind fun t301 => (some t301)) else (some false))) else (some false)) = some r := H
  have A4 := Aside0.mk A40
  clear A40
  by_cases c5 : t299 = true
  · subst c5
    have H1 : ((impl_areWords.f k l1 16).bind fun t300 => (if t300 = true then ((impl_isDate.f a2).bind fun t301 => (some t301)) else (some false))) = some r := by rw [if_pos rfl] at H; exact H
    clear H
    have H := H1
    clear H1
    replace H := Option.bind_eq_some_iff.mp H
    obtain ⟨t300, A60, H⟩ := H
    replace H : (if t300 = true then ((impl_isDate.f a2).bind fun t301 => (some t301)) else (some false)) = some r := H
    have A6 := Aside0.mk A60
    clear A60
    by_cases c7 : t300 = true
    · subst c7
      have H1 : ((impl_isDate.f a2).bind fun t301 => (some t301)) = some r := by rw [if_pos rfl] at H; exact H
      clear H
      have H := H1
      clear H1
      replace H := Option.bind_eq_some_iff.mp H
      obtain ⟨t301, A80, H⟩ := H
      replace H : (some t301) = some r := H
      have A8 := Aside0.mk A80
      clear A80
      obtain rfl := Option.some.inj H
      go_enter Tryz.func34, Tryz.ntmps34
      go_wp2_with (first | ((with_reducible refine gate_callee (f := 29) rfl ?_); refine goesL_ (some 8) rfl rfl Tryz.func29 (by kernel_rfl) rfl #[.slice A0 l0.length c0] rfl (by (try simp only [List.map_toArray, List.map_cons, List.map_nil]); first | done | rfl | (simp only [List.length_drop, List.length_take]; rfl)) ?_; (with_reducible refine (impl_AreRules.calls _ _ l0 true _ ?side1 ?side2 A4.out).mono ?_); (case side1 => repeat (first | exact HR0.out | (with_reducible refine Kd.C_alloc ?_ _) | (with_reducible refine Kd.C_drewN ?_ _) | (with_reducible refine Kd.C_drew ?_))); (case side2 => exact HC0.out); rintro e w9 ⟨rfl, hb⟩; refine ⟨_, rfl, ?_⟩; have n0_ := Aside0.mk (below_step (by repeat (first | (with_reducible first | exact HB.out | apply below_alloc | apply pw_below_drewN | apply below_drew1) | exact HB.out)) hb); clear HB; have HB := n0_; clear n0_; (try clear hb); (try clear hb2); (try clear hk); (try clear hi)) | (go_at_call 76; (with_reducible refine (impl_areWords.calls k _ _ l1 16 true _ ?side1 ?side2 A6.out).mono ?_); (case side1 => repeat (first | exact (Kd.C_below HR1.out HB.out) | (with_reducible refine Kd.C_alloc ?_ _) | (with_reducible refine Kd.C_drewN ?_ _) | (with_reducible refine Kd.C_drew ?_))); (case side2 => exact HC1.out); rintro e w10 ⟨rfl, hb⟩; have n0_ := Aside0.mk (below_step (by repeat (first | (with_reducible first | exact HB.out | apply below_alloc | apply pw_below_drewN | apply below_drew1) | exact HB.out)) hb); clear HB; have HB := n0_; clear n0_; (try clear hb); (try clear hb2); (try clear hk); (try clear hi)) | (go_at_call 36; (with_reducible refine (impl_isDate.calls a2 t301 _ A8.out).mono ?_); rintro e w' ⟨rfl, ⟨nd, rfl⟩⟩))
      go_ret
      exact ⟨by first | rfl | (simp [errW_none, errW_some] <;> rfl) | (simp [*, errW_none, errW_some] <;> rfl), by repeat (first | (with_reducible first | exact HB.out | apply below_alloc | apply pw_below_drewN | apply below_drew1) | exact HB.out)⟩
    · replace c7 := Bool.eq_false_iff.mpr c7
      subst c7
      have H1 : (some false) = some r := by rw [if_neg (show ¬ (false = true) by decide)] at H; exact H
      clear H
      have H := H1
      clear H1
      obtain rfl := Option.some.inj H
      go_enter Tryz.func34, Tryz.ntmps34
      go_wp2_with (first | ((with_reducible refine gate_callee (f := 29) rfl ?_); refine goesL_ (some 8) rfl rfl Tryz.func29 (by kernel_rfl) rfl #[.slice A0 l0.length c0] rfl (by (try simp only [List.map_toArray, List.map_cons, List.map_nil]); first | done | rfl | (simp only [List.length_drop, List.length_take]; rfl)) ?_; (with_reducible refine (impl_AreRules.calls _ _ l0 true _ ?side1 ?side2 A4.out).mono ?_); (case side1 => repeat (first | exact HR0.out | (with_reducible refine Kd.C_alloc ?_ _) | (with_reducible refine Kd.C_drewN ?_ _) | (with_reducible refine Kd.C_drew ?_))); (case side2 => exact HC0.out); rintro e w11 ⟨rfl, hb⟩; refine ⟨_, rfl, ?_⟩; have n0_ := Aside0.mk (below_step (by repeat (first | (with_reducible first | exact HB.out | apply below_alloc | apply pw_below_drewN | apply below_drew1) | exact HB.out)) hb); clear HB; have HB := n0_; clear n0_; (try clear hb); (try clear hb2); (try clear hk); (try clear hi)) | (go_at_call 76; (with_reducible refine (impl_areWords.calls k _ _ l1 16 false _ ?side1 ?side2 A6.out).mono ?_); (case side1 => repeat (first | exact (Kd.C_below HR1.out HB.out) | (with_reducible refine Kd.C_alloc ?_ _) | (with_reducible refine Kd.C_drewN ?_ _) | (with_reducible refine Kd.C_drew ?_))); (case side2 => exact HC1.out); rintro e w12 ⟨rfl, hb⟩; have n0_ := Aside0.mk (below_step (by repeat (first | (with_reducible first | exact HB.out | apply below_alloc | apply pw_below_drewN | apply below_drew1) | exact HB.out)) hb); clear HB; have HB := n0_; clear n0_; (try clear hb); (try clear hb2); (try clear hk); (try clear hi)))
      go_ret
      exact ⟨by first | rfl | (simp [errW_none, errW_some] <;> rfl) | (simp [*, errW_none, errW_some] <;> rfl), by repeat (first | (with_reducible first | exact HB.out | apply below_alloc | apply pw_below_drewN | apply below_drew1) | exact HB.out)⟩
  · replace c5 := Bool.eq_false_iff.mpr c5
    subst c5
    have H1 : (some false) = some r := by rw [if_neg (show ¬ (false = true) by decide)] at H; exact H
    clear H
    have H := H1
    clear H1
    obtain rfl := Option.some.inj H
    go_enter Tryz.func34, Tryz.ntmps34
    go_wp2_with (first | ((with_reducible refine gate_callee (f := 29) rfl ?_); refine goesL_ (some 8) rfl rfl Tryz.func29 (by kernel_rfl) rfl #[.slice A0 l0.length c0] rfl (by (try simp only [List.map_toArray, List.map_cons, List.map_nil]); first | done | rfl | (simp only [List.length_drop, List.length_take]; rfl)) ?_; (with_reducible refine (impl_AreRules.calls _ _ l0 false _ ?side1 ?side2 A4.out).mono ?_); (case side1 => repeat (first | exact HR0.out | (with_reducible refine Kd.C_alloc ?_ _) | (with_reducible refine Kd.C_drewN ?_ _) | (with_reducible refine Kd.C_drew ?_))); (case side2 => exact HC0.out); rintro e w13 ⟨rfl, hb⟩; refine ⟨_, rfl, ?_⟩; have n0_ := Aside0.mk (below_step (by repeat (first | (with_reducible first | exact HB.out | apply below_alloc | apply pw_below_drewN | apply below_drew1) | exact HB.out)) hb); clear HB; have HB := n0_; clear n0_; (try clear hb); (try clear hb2); (try clear hk); (try clear hi)))
    go_ret
    exact ⟨by first | rfl | (simp [errW_none, errW_some] <;> rfl) | (simp [*, errW_none, errW_some] <;> rfl), by repeat (first | (with_reducible first | exact HB.out | apply below_alloc | apply pw_below_drewN | apply below_drew1) | exact HB.out)⟩
/-! ### spec_l05Can: function 40 -/
def spec_l05Can.f (k : Nat) (l0 : List (S41)) (l1 : List Int) (a2 : Int) : Option (Bool) := (spec_l05Rules.f l0).bind fun t302 => (if t302 = true then ((spec_l05Words.f k l1).bind fun t303 => (if t303 = true then ((spec_l05Day.f a2).bind fun t304 => (some t304)) else (some false))) else (some false))
theorem spec_l05Can.mono : ∀ a0 a1 a2 k, LeO (spec_l05Can.f k a0 a1 a2) (spec_l05Can.f (k + 1) a0 a1 a2) := by
  intro a0 a1 a2 k
  unfold spec_l05Can.f
  repeat' first
      | (with_reducible exact spec_l05Words.mono _ _)
      | (with_reducible exact LeO.refl _)
      | (with_reducible exact LeO.none _)
      | (with_reducible refine LeO.ite ?_ ?_)
      | (with_reducible refine LeO.bind ?_ (fun _ => ?_))
      | exact spec_l05Words.mono _ _
      | exact LeO.none _
      | refine LeO.ite ?_ ?_
      | refine LeO.bind ?_ (fun _ => ?_)
set_option maxHeartbeats 8000000 in
set_option maxRecDepth 100000 in
theorem spec_l05Can.calls (k : Nat) (A0 : Option Addr) (c0 : Nat) (l0 : List (S41)) (A1 : Option Addr) (c1 : Nat) (l1 : List Int) (a2 : Int) (r : Bool) (w : World) (hr0 : Kd.C k41 w A0 l0.length l0) (hc0 : l0.length ≤ c0) (hr1 : Kd.C (Kd.int .i64) w A1 l1.length l1) (hc1 : l1.length ≤ c1) (h : spec_l05Can.f k l0 l1 a2 = some r) :
    Calls Tryz.prog 40 #[.slice A0 l0.length c0, .slice A1 l1.length c1, .int .i64 a2] w fun e w' => e = .returned (.bool r) ∧ Drawn0 w w' := by
  have HR0 := Aside0.mk hr0
  have HC0 := Aside0.mk hc0
  clear hr0 hc0
  have HR1 := Aside0.mk hr1
  have HC1 := Aside0.mk hc1
  clear hr1 hc1
  have H : ((spec_l05Rules.f l0).bind fun t302 => (if t302 = true then ((spec_l05Words.f k l1).bind fun t303 => (if t303 = true then ((spec_l05Day.f a2).bind fun t304 => (some t304)) else (some false))) else (some false))) = some r := h
  clear h
  replace H := Option.bind_eq_some_iff.mp H
  obtain ⟨t302, A40, H⟩ := H
  replace H : (if t302 = true then ((spec_l05Words.f k l1).bind fun t303 => (if t303 = true then ((spec_l05Day.f a2).bind fun t304 => (some t304)) else (some false))) else (some false)) = some r := H
  have A4 := Aside0.mk A40
  clear A40
  by_cases c5 : t302 = true
  · subst c5
    have H1 : ((spec_l05Words.f k l1).bind fun t303 => (if t303 = true then ((spec_l05Day.f a2).bind fun t304 => (some t304)) else (some false))) = some r := by rw [if_pos rfl] at H; exact H
    clear H
    have H := H1
    clear H1
    replace H := Option.bind_eq_some_iff.mp H
    obtain ⟨t303, A60, H⟩ := H
    replace H : (if t303 = true then ((spec_l05Day.f a2).bind fun t304 => (some t304)) else (some false)) = some r := H
    have A6 := Aside0.mk A60
    clear A60
    by_cases c7 : t303 = true
    · subst c7
      have H1 : ((spec_l05Day.f a2).bind fun t304 => (some t304)) = some r := by rw [if_pos rfl] at H; exact H
      clear H
      have H := H1
      clear H1
      replace H := Option.bind_eq_some_iff.mp H
      obtain ⟨t304, A80, H⟩ := H
      replace H : (some t304) = some r := H
      have A8 := Aside0.mk A80
      clear A80
      obtain rfl := Option.some.inj H
      go_enter Tryz.func40, Tryz.ntmps40
      go_wp2_with (first | ((with_reducible refine gate_callee (f := 31) rfl ?_); refine goesL_ (some 8) rfl rfl Tryz.func31 (by kernel_rfl) rfl #[.slice A0 l0.length c0] rfl (by (try simp only [List.map_toArray, List.map_cons, List.map_nil]); first | done | rfl | (simp only [List.length_drop, List.length_take]; rfl)) ?_; (with_reducible refine (spec_l05Rules.calls _ _ l0 true _ ?side1 ?side2 A4.out).mono ?_); (case side1 => repeat (first | exact HR0.out | (with_reducible refine Kd.C_alloc ?_ _) | (with_reducible refine Kd.C_drewN ?_ _) | (with_reducible refine Kd.C_drew ?_))); (case side2 => exact HC0.out); rintro e w' ⟨rfl, ⟨nd, rfl⟩⟩; refine ⟨_, rfl, ?_⟩) | (go_at_call 81; (with_reducible refine (spec_l05Words.calls k _ _ l1 true _ ?side1 ?side2 A6.out).mono ?_); (case side1 => repeat (first | exact HR1.out | (with_reducible refine Kd.C_alloc ?_ _) | (with_reducible refine Kd.C_drewN ?_ _) | (with_reducible refine Kd.C_drew ?_))); (case side2 => exact HC1.out); rintro e w' ⟨rfl, ⟨nd, rfl⟩⟩) | (go_at_call 38; (with_reducible refine (spec_l05Day.calls a2 t304 _ A8.out).mono ?_); rintro e w' ⟨rfl, ⟨nd, rfl⟩⟩))
      go_ret
      exact ⟨by first | rfl | (simp; done) | (simp [*]; done), by repeat (first | exact Drawn0.refl _ | apply Drawn0.step)⟩
    · replace c7 := Bool.eq_false_iff.mpr c7
      subst c7
      have H1 : (some false) = some r := by rw [if_neg (show ¬ (false = true) by decide)] at H; exact H
      clear H
      have H := H1
      clear H1
      obtain rfl := Option.some.inj H
      go_enter Tryz.func40, Tryz.ntmps40
      go_wp2_with (first | ((with_reducible refine gate_callee (f := 31) rfl ?_); refine goesL_ (some 8) rfl rfl Tryz.func31 (by kernel_rfl) rfl #[.slice A0 l0.length c0] rfl (by (try simp only [List.map_toArray, List.map_cons, List.map_nil]); first | done | rfl | (simp only [List.length_drop, List.length_take]; rfl)) ?_; (with_reducible refine (spec_l05Rules.calls _ _ l0 true _ ?side1 ?side2 A4.out).mono ?_); (case side1 => repeat (first | exact HR0.out | (with_reducible refine Kd.C_alloc ?_ _) | (with_reducible refine Kd.C_drewN ?_ _) | (with_reducible refine Kd.C_drew ?_))); (case side2 => exact HC0.out); rintro e w' ⟨rfl, ⟨nd, rfl⟩⟩; refine ⟨_, rfl, ?_⟩) | (go_at_call 81; (with_reducible refine (spec_l05Words.calls k _ _ l1 false _ ?side1 ?side2 A6.out).mono ?_); (case side1 => repeat (first | exact HR1.out | (with_reducible refine Kd.C_alloc ?_ _) | (with_reducible refine Kd.C_drewN ?_ _) | (with_reducible refine Kd.C_drew ?_))); (case side2 => exact HC1.out); rintro e w' ⟨rfl, ⟨nd, rfl⟩⟩))
      go_ret
      exact ⟨by first | rfl | (simp; done) | (simp [*]; done), by repeat (first | exact Drawn0.refl _ | apply Drawn0.step)⟩
  · replace c5 := Bool.eq_false_iff.mpr c5
    subst c5
    have H1 : (some false) = some r := by rw [if_neg (show ¬ (false = true) by decide)] at H; exact H
    clear H
    have H := H1
    clear H1
    obtain rfl := Option.some.inj H
    go_enter Tryz.func40, Tryz.ntmps40
    go_wp2_with (first | ((with_reducible refine gate_callee (f := 31) rfl ?_); refine goesL_ (some 8) rfl rfl Tryz.func31 (by kernel_rfl) rfl #[.slice A0 l0.length c0] rfl (by (try simp only [List.map_toArray, List.map_cons, List.map_nil]); first | done | rfl | (simp only [List.length_drop, List.length_take]; rfl)) ?_; (with_reducible refine (spec_l05Rules.calls _ _ l0 false _ ?side1 ?side2 A4.out).mono ?_); (case side1 => repeat (first | exact HR0.out | (with_reducible refine Kd.C_alloc ?_ _) | (with_reducible refine Kd.C_drewN ?_ _) | (with_reducible refine Kd.C_drew ?_))); (case side2 => exact HC0.out); rintro e w' ⟨rfl, ⟨nd, rfl⟩⟩; refine ⟨_, rfl, ?_⟩))
    go_ret
    exact ⟨by first | rfl | (simp; done) | (simp [*]; done), by repeat (first | exact Drawn0.refl _ | apply Drawn0.step)⟩
/-! ### impl_ActiveRules: function 44 -/
mutual
def impl_ActiveRules.j0 : Nat → List (S41) → Int → Bool → Option (List Int × Bool)
  | 0, _, _, _ => none
  | k + 1, x0, x1, x16 => if x16 = true then (some (([] : List Int), false)) else (impl_ActiveRules.l0 k x1 (([] : List Int)) x0 (x0.length : Int) 0)
def impl_ActiveRules.l0 : Nat → Int → List Int → List (S41) → Int → Int → Option (List Int × Bool)
  | 0, _, _, _, _, _ => none
  | k + 1, x1, x6, x18, x19, x20 => if x20 < x19 then (if 0 ≤ x20 then (if x20 < (x18.length : Int) then ((impl_Rule_isActive.f ((rd_T41 x18 x20).f0) ((rd_T41 x18 x20).f1) ((rd_T41 x18 x20).f2) ((rd_T41 x18 x20).f3) ((rd_T41 x18 x20).f4) x1).bind fun t312 => (if t312 = true then (if x6.length < 17592186044416 then (impl_ActiveRules.l0 k x1 (x6 ++ [x20]) x18 x19 (wrap64 (x20 + 1))) else (none)) else (impl_ActiveRules.l0 k x1 x6 x18 x19 (wrap64 (x20 + 1))))) else (none)) else (none)) else (some (x6, true))
end
def impl_ActiveRules.f (k : Nat) (l0 : List (S41)) (a1 : Int) : Option (List Int × Bool) := (impl_AreRules.f l0).bind fun t305 => (if t305 = true then ((impl_isDate.f a1).bind fun t306 => (impl_ActiveRules.j0 k l0 a1 (!t306))) else (impl_ActiveRules.j0 k l0 a1 true))
theorem impl_ActiveRules.mono_l : ∀ k, (∀ y0 y1 y2, LeO (impl_ActiveRules.j0 k y0 y1 y2) (impl_ActiveRules.j0 (k + 1) y0 y1 y2)) ∧ (∀ y0 y1 y2 y3 y4, LeO (impl_ActiveRules.l0 k y0 y1 y2 y3 y4) (impl_ActiveRules.l0 (k + 1) y0 y1 y2 y3 y4))
  | 0 => ⟨fun _ _ _ r h => by simp [impl_ActiveRules.j0] at h, fun _ _ _ _ _ r h => by simp [impl_ActiveRules.l0] at h⟩
  | k + 1 => by
    obtain ⟨ih0, ih1⟩ := impl_ActiveRules.mono_l k
    refine ⟨?_, ?_⟩
    · intro y0 y1 y2
      unfold impl_ActiveRules.j0
      repeat' first
      | (with_reducible exact ih0 _ _ _)
      | (with_reducible exact ih1 _ _ _ _ _)
      | (with_reducible exact LeO.refl _)
      | (with_reducible exact LeO.none _)
      | (with_reducible refine LeO.ite ?_ ?_)
      | (with_reducible refine LeO.bind ?_ (fun _ => ?_))
      | exact ih0 _ _ _
      | exact ih1 _ _ _ _ _
      | exact LeO.none _
      | refine LeO.ite ?_ ?_
      | refine LeO.bind ?_ (fun _ => ?_)
    · intro y0 y1 y2 y3 y4
      unfold impl_ActiveRules.l0
      repeat' first
      | (with_reducible exact ih0 _ _ _)
      | (with_reducible exact ih1 _ _ _ _ _)
      | (with_reducible exact LeO.refl _)
      | (with_reducible exact LeO.none _)
      | (with_reducible refine LeO.ite ?_ ?_)
      | (with_reducible refine LeO.bind ?_ (fun _ => ?_))
      | exact ih0 _ _ _
      | exact ih1 _ _ _ _ _
      | exact LeO.none _
      | refine LeO.ite ?_ ?_
      | refine LeO.bind ?_ (fun _ => ?_)
theorem impl_ActiveRules.mono : ∀ a0 a1 k, LeO (impl_ActiveRules.f k a0 a1) (impl_ActiveRules.f (k + 1) a0 a1) := by
  intro a0 a1 k
  obtain ⟨ih0, ih1⟩ := impl_ActiveRules.mono_l k
  unfold impl_ActiveRules.f
  repeat' first
      | (with_reducible exact ih0 _ _ _)
      | (with_reducible exact ih1 _ _ _ _ _)
      | (with_reducible exact LeO.refl _)
      | (with_reducible exact LeO.none _)
      | (with_reducible refine LeO.ite ?_ ?_)
      | (with_reducible refine LeO.bind ?_ (fun _ => ?_))
      | exact ih0 _ _ _
      | exact ih1 _ _ _ _ _
      | exact LeO.none _
      | refine LeO.ite ?_ ?_
      | refine LeO.bind ?_ (fun _ => ?_)
set_option maxHeartbeats 8000000 in
set_option maxRecDepth 100000 in
theorem impl_ActiveRules.calls (k : Nat) (A0 : Option Addr) (c0 : Nat) (l0 : List (S41)) (a1 : Int) (r1 : List Int) (r2 : Bool) (w : World) (hr0 : Kd.C k41 w A0 l0.length l0) (hc0 : l0.length ≤ c0) (h : impl_ActiveRules.f k l0 a1 = some (r1, r2)) :
    Calls Tryz.prog 44 #[.slice A0 l0.length c0, .int .i64 a1] w fun e w' => ∃ v0_ : Value, e = .returned (.tuple #[v0_, .bool r2]) ∧ Kd.R (Kd.int .i64) 2 w' w.heap.size (fun _ => True) v0_ r1 ∧ Below w.heap.size w w' := by
  have hu41 := Tryz.underlying41
  have HR0 := Aside0.mk hr0
  have HC0 := Aside0.mk hc0
  clear hr0 hc0
  have HB := Aside0.mk (Below.refl w.heap.size w)
  have H : ((impl_AreRules.f l0).bind fun t305 => (if t305 = true then ((impl_isDate.f a1).bind fun t306 => (impl_ActiveRules.j0 k l0 a1 (!t306))) else (impl_ActiveRules.j0 k l0 a1 true))) = some (r1, r2) := h
  clear h
  have HC3 := Aside0.mk H
  clear H
  go_enter Tryz.func44, Tryz.ntmps44
  go_upto_region 1 with (fail)
  go_cut [16] (fun v16 wc => ∃ (kq : Nat) (x16_2 : Bool), v16 = .bool x16_2 ∧ Aside0 (impl_ActiveRules.j0 kq l0 a1 x16_2 = some (r1, r2)) ∧ Aside0 (kq ≤ k) ∧ Aside0 (Below w.heap.size w wc))
  case first =>
    have H := HC3.out
    clear HC3
    replace H := Option.bind_eq_some_iff.mp H
    obtain ⟨t305, A40, H⟩ := H
    replace H : (if t305 = true then ((impl_isDate.f a1).bind fun t306 => (impl_ActiveRules.j0 k l0 a1 (!t306))) else (impl_ActiveRules.j0 k l0 a1 true)) = some (r1, r2) := H
    have A4 := Aside0.mk A40
    clear A40
    by_cases c5 : t305 = true
    · subst c5
      have H1 : ((impl_isDate.f a1).bind fun t306 => (impl_ActiveRules.j0 k l0 a1 (!t306))) = some (r1, r2) := by rw [if_pos rfl] at H; exact H
      clear H
      have H := H1
      clear H1
      replace H := Option.bind_eq_some_iff.mp H
      obtain ⟨t306, A60, H⟩ := H
      replace H : (impl_ActiveRules.j0 k l0 a1 (!t306)) = some (r1, r2) := H
      have A6 := Aside0.mk A60
      clear A60
      have H' := Aside0.mk H
      clear H
      go_wp2_with (first | ((with_reducible refine gate_callee (f := 29) rfl ?_); refine goesL_ (some 10) rfl rfl Tryz.func29 (by kernel_rfl) rfl #[.slice A0 l0.length c0] rfl (by (try simp only [List.map_toArray, List.map_cons, List.map_nil]); first | done | rfl | (simp only [List.length_drop, List.length_take]; rfl)) ?_; (with_reducible refine (impl_AreRules.calls _ _ l0 true _ ?side1 ?side2 A4.out).mono ?_); (case side1 => repeat (first | exact (Kd.C_below HR0.out HB.out) | (with_reducible refine Kd.C_alloc ?_ _) | (with_reducible refine Kd.C_drewN ?_ _) | (with_reducible refine Kd.C_drew ?_))); (case side2 => exact HC0.out); rintro e w7 ⟨rfl, hb⟩; refine ⟨_, rfl, ?_⟩; have n0_ := Aside0.mk (below_step (by repeat (first | (with_reducible first | exact HB.out | apply below_alloc | apply pw_below_drewN | apply below_drew1) | exact HB.out)) hb); clear HB; have HB := n0_; clear n0_; (try clear hb); (try clear hb2); (try clear hk); (try clear hi)) | (go_at_call 36; (with_reducible refine (impl_isDate.calls a1 t306 _ A6.out).mono ?_); rintro e w' ⟨rfl, ⟨nd, rfl⟩⟩))
      go_meet
      case rel => exact ⟨_, (!t306), (by first | rfl | (simp; done) | (simp [*]; done)), H', ⟨by first | omega | exact Nat.le_refl _⟩, ⟨by repeat (first | (with_reducible first | exact HB.out | apply below_alloc | apply pw_below_drewN | apply below_drew1) | exact HB.out)⟩⟩
    · replace c5 := Bool.eq_false_iff.mpr c5
      subst c5
      have H1 : (impl_ActiveRules.j0 k l0 a1 true) = some (r1, r2) := by rw [if_neg (show ¬ (false = true) by decide)] at H; exact H
      clear H
      have H := H1
      clear H1
      have H' := Aside0.mk H
      clear H
      go_wp2_with (first | ((with_reducible refine gate_callee (f := 29) rfl ?_); refine goesL_ (some 10) rfl rfl Tryz.func29 (by kernel_rfl) rfl #[.slice A0 l0.length c0] rfl (by (try simp only [List.map_toArray, List.map_cons, List.map_nil]); first | done | rfl | (simp only [List.length_drop, List.length_take]; rfl)) ?_; (with_reducible refine (impl_AreRules.calls _ _ l0 false _ ?side1 ?side2 A4.out).mono ?_); (case side1 => repeat (first | exact (Kd.C_below HR0.out HB.out) | (with_reducible refine Kd.C_alloc ?_ _) | (with_reducible refine Kd.C_drewN ?_ _) | (with_reducible refine Kd.C_drew ?_))); (case side2 => exact HC0.out); rintro e w8 ⟨rfl, hb⟩; refine ⟨_, rfl, ?_⟩; have n0_ := Aside0.mk (below_step (by repeat (first | (with_reducible first | exact HB.out | apply below_alloc | apply pw_below_drewN | apply below_drew1) | exact HB.out)) hb); clear HB; have HB := n0_; clear n0_; (try clear hb); (try clear hb2); (try clear hk); (try clear hi)))
      go_meet
      case rel => exact ⟨_, (true), (by first | rfl | (simp; done) | (simp [*]; done)), H', ⟨by first | omega | exact Nat.le_refl _⟩, ⟨by repeat (first | (with_reducible first | exact HB.out | apply below_alloc | apply pw_below_drewN | apply below_drew1) | exact HB.out)⟩⟩
  case rest =>
    clear HC3
    try clear c2
    try clear p2
    try clear c4
    try clear c5
    obtain ⟨kq, x16_2, rfl, HA, HJ2, HB⟩ := hcut
    cases kq with
    | zero => exact absurd HA.out (by simp [impl_ActiveRules.j0])
    | succ kj2 =>
      have H := HA.out
      clear HA
      simp only [impl_ActiveRules.j0] at H
      by_cases c9 : x16_2 = true
      · subst c9
        have H1 : (some (([] : List Int), false)) = some (r1, r2) := by rw [if_pos rfl] at H; exact H
        clear H
        have H := H1
        clear H1
        simp only [Option.some.injEq, Prod.mk.injEq] at H
        obtain ⟨rfl, rfl⟩ := H
        go_wp2
        go_ret2
        exact ⟨_, by first | rfl | (simp [errW_none, errW_some] <;> rfl) | (simp [*, errW_none, errW_some] <;> rfl), by first | exact Kd.R_nil _ _ _ _ _ | exact Kd.N_nil _ _ _ _ _ | exact Kd.V_nil _ _ _ _ _ | exact Kd.Q_nil _ _ _ _ _ | exact Kd.S_nil _ _ _ _ _, by repeat (first | (with_reducible first | exact HB.out | apply below_alloc | apply pw_below_drewN | apply below_drew1) | exact HB.out)⟩
      · replace c9 := Bool.eq_false_iff.mpr c9
        subst c9
        have H1 : (impl_ActiveRules.l0 kj2 a1 (([] : List Int)) l0 (l0.length : Int) 0) = some (r1, r2) := by rw [if_neg (show ¬ (false = true) by decide)] at H; exact H
        clear H
        have H := H1
        clear H1
        obtain ⟨y307, hy307⟩ : ∃ y_ : List Int, y_ = (([] : List Int)) := ⟨_, rfl⟩
        replace H : (impl_ActiveRules.l0 kj2 a1 y307 l0 (l0.length : Int) 0) = some (r1, r2) := by first | (rw [hy307]; with_reducible exact H) | (have H2_ := (Option.bind_some _ _).symm.trans H; rw [hy307]; with_reducible exact H2_) | (have H2_ := (Option.bind_some _ _).symm.trans H; with_reducible exact H2_) | with_reducible exact H | (rw [hy307]; exact H) | exact H
        have Ny307 := Aside0.mk hy307
        clear hy307
        have H' := Aside0.mk H
        clear H
        go_wp2_with (first | ((with_reducible refine gate_dst (N := 17) rfl ?_); refine Kd.R_lit (Kd.int .i64) _ 2 ?hg (N := 17) ?hd (xs := ([] : List Int)) (inner := []) (ok := fun _ => True) (okp := fun _ => True) ?hr ?hp (fun _ hk => hk) trivial (Below.refl _ _) (Nat.le_refl _) (by simp) ?_; (case hd => rfl); (case hg => rfl); (case hr => first | (go_simp; done) | (go_simp; rfl)); (case hp => exact (Reps.none _ _)); intro v308 w10 ho11 hb hg_ hnew_; clear hg_ hnew_; (first | rw [← Ny307.out] at ho11 | (simp only [Int.reduceToNat] at ho11; rw [← Ny307.out] at ho11)); have n0_ := Aside0.mk (Kd.R_lower ho11 (below_size (by repeat (first | (with_reducible first | exact HB.out | apply below_alloc | apply pw_below_drewN | apply below_drew1) | exact HB.out)))); have n1_ := Aside0.mk (below_step (by repeat (first | (with_reducible first | exact HB.out | apply below_alloc | apply pw_below_drewN | apply below_drew1) | exact HB.out)) hb); clear HB; have HO309 := n0_; have HB := n1_; clear n0_ n1_; clear hb ho11))
        go_loopg [6, 20] kj2 (fun kq v6 v20 w' => ∃ (x6_2 : List Int) (x20_2 : Int), v20 = .int .i64 x20_2 ∧ Aside0 (impl_ActiveRules.l0 kq a1 x6_2 l0 (l0.length : Int) x20_2 = some (r1, r2)) ∧ Aside0 (kq ≤ kj2) ∧ Aside0 (Kd.R (Kd.int .i64) 2 w' w.heap.size (fun _ => True) v6 x6_2) ∧ Aside0 (Below w.heap.size w w'))
        case atStart => exact ⟨(y307), (0), (by first | rfl | (simp; done) | (simp [*]; done)), H', ⟨Nat.le_refl _⟩, ⟨by (with_reducible repeat (first | apply Kd.R_alloc | apply Kd.R_drewN | apply Kd.R_drew)); exact HO309.out⟩, ⟨by repeat (first | (with_reducible first | exact HB.out | apply below_alloc | apply pw_below_drewN | apply below_drew1) | exact HB.out)⟩⟩
        case round =>
          clear H'
          try clear c2
          try clear p2
          try clear c4
          try clear c5
          try clear c9
          try clear p2
          obtain ⟨x6_2, x20_2, rfl, HA, HK2, HO_6, HB⟩ := hrel
          cases gk with
          | zero => exact absurd HA.out (by simp [impl_ActiveRules.l0])
          | succ k2 =>
            have H := HA.out
            clear HA
            simp only [impl_ActiveRules.l0] at H
            by_cases c12 : x20_2 < (l0.length : Int)
            · rw [if_pos c12] at H
              have c12b0 : decide (x20_2 < (l0.length : Int)) = true := decide_eq_true c12
              clear c12
              by_cases c13 : 0 ≤ x20_2
              · rw [if_pos c13] at H
                have c13b0 : decide (0 ≤ x20_2) = true := decide_eq_true c13
                clear c13
                by_cases c14 : x20_2 < (l0.length : Int)
                · rw [if_pos c14] at H
                  have c14b0 : decide (x20_2 < (l0.length : Int)) = true := decide_eq_true c14
                  clear c14
                  replace H := Option.bind_eq_some_iff.mp H
                  obtain ⟨t312, A150, H⟩ := H
                  replace H : (if t312 = true then (if x6_2.length < 17592186044416 then (impl_ActiveRules.l0 k2 a1 (x6_2 ++ [x20_2]) l0 (l0.length : Int) (wrap64 (x20_2 + 1))) else (none)) else (impl_ActiveRules.l0 k2 a1 x6_2 l0 (l0.length : Int) (wrap64 (x20_2 + 1)))) = some (r1, r2) := H
                  have A15 := Aside0.mk A150
                  clear A150
                  by_cases c16 : t312 = true
                  · subst c16
                    have H1 : (if x6_2.length < 17592186044416 then (impl_ActiveRules.l0 k2 a1 (x6_2 ++ [x20_2]) l0 (l0.length : Int) (wrap64 (x20_2 + 1))) else (none)) = some (r1, r2) := by rw [if_pos rfl] at H; exact H
                    clear H
                    have H := H1
                    clear H1
                    by_cases c17 : x6_2.length < 17592186044416
                    · rw [if_pos c17] at H
                      have LMc17 := Aside0.mk c17
                      clear c17
                      obtain ⟨y313, hy313⟩ : ∃ y_ : List Int, y_ = (x6_2 ++ [x20_2]) := ⟨_, rfl⟩
                      replace H : (impl_ActiveRules.l0 k2 a1 y313 l0 (l0.length : Int) (wrap64 (x20_2 + 1))) = some (r1, r2) := by first | (rw [hy313]; with_reducible exact H) | (have H2_ := (Option.bind_some _ _).symm.trans H; rw [hy313]; with_reducible exact H2_) | (have H2_ := (Option.bind_some _ _).symm.trans H; with_reducible exact H2_) | with_reducible exact H | (rw [hy313]; exact H) | exact H
                      have Ny313 := Aside0.mk hy313
                      clear hy313
                      have H' := Aside0.mk H
                      clear H
                      have p310 : 0 ≤ (x20_2 : Int) := of_decide_eq_true (by first | (with_reducible assumption) | assumption)
                      have q310 : x20_2 < (l0.length : Int) := of_decide_eq_true (by first | (with_reducible assumption) | assumption)
                      obtain ⟨ad310, A310_1, c310_1, e310, hx310_0, hx310_1, hx310_2, hx310_3, hx310_4, hl310_1, hi310_1⟩ := at_T41 HR0.out x20_2 p310 q310
                      cases e310
                      replace hx310_0 := (HB.out.cell (World.block_lt_of_cell? w _ hx310_0)).trans hx310_0
                      replace hx310_1 := (HB.out.cell (World.block_lt_of_cell? w _ hx310_1)).trans hx310_1
                      replace hx310_2 := (HB.out.cell (World.block_lt_of_cell? w _ hx310_2)).trans hx310_2
                      replace hx310_3 := (HB.out.cell (World.block_lt_of_cell? w _ hx310_3)).trans hx310_3
                      replace hx310_4 := (HB.out.cell (World.block_lt_of_cell? w _ hx310_4)).trans hx310_4
                      have HR310_1 := Aside0.mk hi310_1
                      have HC310_1 := Aside0.mk hl310_1
                      clear hi310_1 hl310_1
                      replace p310 := eq_true p310
                      replace q310 := eq_true q310
                      go_wp2_with (first | ((with_reducible refine gate_dst (N := 8) rfl ?_); refine box_event ?hg (N := 8) ?hd (cs := #[.int .i64 0, .slice none 0 0, .int .i64 0, .int .i64 0, .int .i64 0]) (t := 41) ?hr ?_; (case hd => rfl); (case hg => rfl); (case hr => first | (go_simp; done) | (go_simp; rfl)); intro gb311 hg w18 hbox hb; have n0_ := Aside0.mk (Kd.R_below (by (with_reducible repeat (first | apply Kd.R_alloc | apply Kd.R_drewN | apply Kd.R_drew)); exact HO_6.out) hb); have n1_ := Aside0.mk (below_step (by repeat (first | (with_reducible first | exact HB.out | apply below_alloc | apply pw_below_drewN | apply below_drew1) | exact HB.out)) hb); have n2_ := Aside0.mk (hbox); have n3_ := Aside0.mk ((by rw [hg]; exact (below_size (by repeat (first | (with_reducible first | exact HB.out | apply below_alloc | apply pw_below_drewN | apply below_drew1) | exact HB.out))) : w.heap.size ≤ gb311)); have n4_ := Aside0.mk ((by rw [hg]; exact (below_size (by repeat (first | (with_reducible first | exact HB.out | apply below_alloc | apply pw_below_drewN | apply below_drew1) | exact HB.out))) : w.heap.size ≤ gb311)); clear HO_6; clear HB; have HO_6 := n0_; have HB := n1_; have BK311 := n2_; have GW311 := n3_; have GE311 := n4_; clear n0_ n1_ n2_ n3_ n4_; clear hb hbox hg; have hcz19_0 : w18.cell? ⟨gb311, 0, none⟩ = some (.int .i64 0) := (blk_cell BK311.out 0).trans rfl; have hcz19_1 : w18.cell? ⟨gb311, 1, none⟩ = some (.slice none 0 0) := (blk_cell BK311.out 1).trans rfl; have hcz19_2 : w18.cell? ⟨gb311, 2, none⟩ = some (.int .i64 0) := (blk_cell BK311.out 2).trans rfl; have hcz19_3 : w18.cell? ⟨gb311, 3, none⟩ = some (.int .i64 0) := (blk_cell BK311.out 3).trans rfl; have hcz19_4 : w18.cell? ⟨gb311, 4, none⟩ = some (.int .i64 0) := (blk_cell BK311.out 4).trans rfl; have hfz19_0 := blk_frozen BK311.out 0; have hfz19_1 := blk_frozen BK311.out 1; have hfz19_2 := blk_frozen BK311.out 2; have hfz19_3 := blk_frozen BK311.out 3; have hfz19_4 := blk_frozen BK311.out 4) | ((with_reducible refine gate_callee (f := 59) rfl ?_); refine goesL_ (some 27) rfl rfl Tryz.func59 (by kernel_rfl) rfl #[.agg #[.int .i64 ((rd_T41 l0 x20_2).f0), .slice A310_1 ((rd_T41 l0 x20_2).f1).length c310_1, .int .i64 ((rd_T41 l0 x20_2).f2), .int .i64 ((rd_T41 l0 x20_2).f3), .int .i64 ((rd_T41 l0 x20_2).f4)], .int .i64 a1] rfl (by (try simp only [List.map_toArray, List.map_cons, List.map_nil]); first | done | rfl | (simp only [List.length_drop, List.length_take]; rfl)) ?_; (with_reducible refine (impl_Rule_isActive.calls ((rd_T41 l0 x20_2).f0) _ _ ((rd_T41 l0 x20_2).f1) ((rd_T41 l0 x20_2).f2) ((rd_T41 l0 x20_2).f3) ((rd_T41 l0 x20_2).f4) a1 true _ ?side1 ?side2 A15.out).mono ?_); (case side1 => exact Kd.C_below HR310_1.out (by repeat (first | (with_reducible first | exact HB.out | apply below_alloc | apply pw_below_drewN | apply below_drew1 | refine below_set ?_ GE311.out) | exact HB.out))); (case side2 => exact HC310_1.out); rintro e w20 ⟨rfl, hb⟩; refine ⟨_, rfl, ?_⟩; have n0_ := Aside0.mk (Kd.R_below (by (with_reducible repeat (first | apply Kd.R_alloc | apply Kd.R_drewN | apply Kd.R_drew)); exact (Kd.R_mono (Kd.R_far (p := ⟨gb311, 4, none⟩) (Kd.R_far (p := ⟨gb311, 3, none⟩) (Kd.R_far (p := ⟨gb311, 2, none⟩) (Kd.R_far (p := ⟨gb311, 1, none⟩) (Kd.R_far (p := ⟨gb311, 0, none⟩) (Kd.R_types HO_6.out BK311.out (by decide)) (fun _ hk => hk.2) (.int .i64 ((rd_T41 l0 x20_2).f0))) (fun _ hk => hk.2) (.slice A310_1 ((rd_T41 l0 x20_2).f1).length c310_1)) (fun _ hk => hk.2) (.int .i64 ((rd_T41 l0 x20_2).f2))) (fun _ hk => hk.2) (.int .i64 ((rd_T41 l0 x20_2).f3))) (fun _ hk => hk.2) (.int .i64 ((rd_T41 l0 x20_2).f4))) (fun _ h_ => h_.1))) hb); have n1_ := Aside0.mk (blk_below (g := gb311) (o := .cells #[.int .i64 ((rd_T41 l0 x20_2).f0), .slice A310_1 ((rd_T41 l0 x20_2).f1).length c310_1, .int .i64 ((rd_T41 l0 x20_2).f2), .int .i64 ((rd_T41 l0 x20_2).f3), .int .i64 ((rd_T41 l0 x20_2).f4)] 41 (0, 0)) (by (with_reducible repeat (first | refine blk_drewN ?_ _ | refine blk_drew ?_ | refine blk_alloc ?_ _)); refine blk_put (cs := #[.int .i64 ((rd_T41 l0 x20_2).f0), .slice A310_1 ((rd_T41 l0 x20_2).f1).length c310_1, .int .i64 ((rd_T41 l0 x20_2).f2), .int .i64 ((rd_T41 l0 x20_2).f3), .int .i64 0]) ?_ 4 _ rfl; (with_reducible repeat (first | refine blk_drewN ?_ _ | refine blk_drew ?_ | refine blk_alloc ?_ _)); refine blk_put (cs := #[.int .i64 ((rd_T41 l0 x20_2).f0), .slice A310_1 ((rd_T41 l0 x20_2).f1).length c310_1, .int .i64 ((rd_T41 l0 x20_2).f2), .int .i64 0, .int .i64 0]) ?_ 3 _ rfl; (with_reducible repeat (first | refine blk_drewN ?_ _ | refine blk_drew ?_ | refine blk_alloc ?_ _)); refine blk_put (cs := #[.int .i64 ((rd_T41 l0 x20_2).f0), .slice A310_1 ((rd_T41 l0 x20_2).f1).length c310_1, .int .i64 0, .int .i64 0, .int .i64 0]) ?_ 2 _ rfl; (with_reducible repeat (first | refine blk_drewN ?_ _ | refine blk_drew ?_ | refine blk_alloc ?_ _)); refine blk_put (cs := #[.int .i64 ((rd_T41 l0 x20_2).f0), .slice none 0 0, .int .i64 0, .int .i64 0, .int .i64 0]) ?_ 1 _ rfl; (with_reducible repeat (first | refine blk_drewN ?_ _ | refine blk_drew ?_ | refine blk_alloc ?_ _)); refine blk_put (cs := #[.int .i64 0, .slice none 0 0, .int .i64 0, .int .i64 0, .int .i64 0]) ?_ 0 _ rfl; (with_reducible repeat (first | refine blk_drewN ?_ _ | refine blk_drew ?_ | refine blk_alloc ?_ _)); exact BK311.out) hb); have n2_ := Aside0.mk (below_step (by repeat (first | (with_reducible first | exact HB.out | apply below_alloc | apply pw_below_drewN | apply below_drew1 | refine below_set ?_ GE311.out) | exact HB.out)) hb); clear HO_6; clear BK311; clear HB; have HO_6 := n0_; have BK311 := n1_; have HB := n2_; clear n0_ n1_ n2_; (try clear hb); (try clear hb2); (try clear hk); (try clear hi)) | ((with_reducible refine gate_builtin (b := .append) (xs := #[.tmp 28, .tmp 30]) rfl ?_); at_builtin; refine Kd.R_append (Kd.int .i64) (w0 := w) w.heap.size rfl (.tmp 28) (.tmp 30) 26 2 (.int .i64 0) 8 rfl Tryz.underlying26 info2 rfl (by decide) (by omega) u6 x6_2 x20_2 [.int .i64 x20_2] (fun _ => True) (fun _ => False) rfl rfl ?aP (fun _ hk => hk.elim) ?aF ?aO ?aB ?aS ?aL ?_; (case aP => exact rfl); (case aB => exact (by repeat (first | (with_reducible first | exact HB.out | apply below_alloc | apply pw_below_drewN | apply below_drew1 | refine below_set ?_ GE311.out) | exact HB.out))); (case aF => exact (fun _ _ => trivial)); (case aO => exact (by (with_reducible repeat (first | apply Kd.R_alloc | apply Kd.R_drewN | apply Kd.R_drew)); exact HO_6.out)); (case aS => exact (below_size (by repeat (first | (with_reducible first | exact HB.out | apply below_alloc | apply pw_below_drewN | apply below_drew1 | refine below_set ?_ GE311.out) | exact HB.out)))); (case aL => have := LMc17.out; omega); intro v314 w21 ho hb hg hat; rw [← Ny313.out] at ho; have n0_ := Aside0.mk (blk_grown (g := gb311) (o := .cells #[.int .i64 ((rd_T41 l0 x20_2).f0), .slice A310_1 ((rd_T41 l0 x20_2).f1).length c310_1, .int .i64 ((rd_T41 l0 x20_2).f2), .int .i64 ((rd_T41 l0 x20_2).f3), .int .i64 ((rd_T41 l0 x20_2).f4)] 41 (0, 0)) (by (with_reducible repeat (first | refine blk_drewN ?_ _ | refine blk_drew ?_ | refine blk_alloc ?_ _)); exact BK311.out) hg (Kd.R_ne HO_6.out BK311.out (by decide))); have n1_ := Aside0.mk (hb); have n2_ := Aside0.mk (ho); clear BK311; clear HB; clear HO_6; have BK311 := n0_; have HB := n1_; have HO315 := n2_; clear n0_ n1_ n2_; clear ho hb hg hat))
                      go_roundg k2
                      case measure => have := HJ2.out; have := HK2.out; omega
                      case rel => exact ⟨(y313), (wrap64 (x20_2 + 1)), (by first | rfl | (simp; done) | (simp [*]; done)), H', ⟨by have := HJ2.out; have := HK2.out; omega⟩, ⟨by (with_reducible repeat (first | apply Kd.R_alloc | apply Kd.R_drewN | apply Kd.R_drew)); exact HO315.out⟩, ⟨by repeat (first | (with_reducible first | exact HB.out | apply below_alloc | apply pw_below_drewN | apply below_drew1 | refine below_set ?_ GE311.out) | exact HB.out)⟩⟩
                    · rw [if_neg c17] at H
                      exact absurd H (by simp)
                  · replace c16 := Bool.eq_false_iff.mpr c16
                    subst c16
                    have H1 : (impl_ActiveRules.l0 k2 a1 x6_2 l0 (l0.length : Int) (wrap64 (x20_2 + 1))) = some (r1, r2) := by rw [if_neg (show ¬ (false = true) by decide)] at H; exact H
                    clear H
                    have H := H1
                    clear H1
                    have H' := Aside0.mk H
                    clear H
                    have p310 : 0 ≤ (x20_2 : Int) := of_decide_eq_true (by first | (with_reducible assumption) | assumption)
                    have q310 : x20_2 < (l0.length : Int) := of_decide_eq_true (by first | (with_reducible assumption) | assumption)
                    obtain ⟨ad310, A310_1, c310_1, e310, hx310_0, hx310_1, hx310_2, hx310_3, hx310_4, hl310_1, hi310_1⟩ := at_T41 HR0.out x20_2 p310 q310
                    cases e310
                    replace hx310_0 := (HB.out.cell (World.block_lt_of_cell? w _ hx310_0)).trans hx310_0
                    replace hx310_1 := (HB.out.cell (World.block_lt_of_cell? w _ hx310_1)).trans hx310_1
                    replace hx310_2 := (HB.out.cell (World.block_lt_of_cell? w _ hx310_2)).trans hx310_2
                    replace hx310_3 := (HB.out.cell (World.block_lt_of_cell? w _ hx310_3)).trans hx310_3
                    replace hx310_4 := (HB.out.cell (World.block_lt_of_cell? w _ hx310_4)).trans hx310_4
                    have HR310_1 := Aside0.mk hi310_1
                    have HC310_1 := Aside0.mk hl310_1
                    clear hi310_1 hl310_1
                    replace p310 := eq_true p310
                    replace q310 := eq_true q310
                    go_wp2_with (first | ((with_reducible refine gate_dst (N := 8) rfl ?_); refine box_event ?hg (N := 8) ?hd (cs := #[.int .i64 0, .slice none 0 0, .int .i64 0, .int .i64 0, .int .i64 0]) (t := 41) ?hr ?_; (case hd => rfl); (case hg => rfl); (case hr => first | (go_simp; done) | (go_simp; rfl)); intro gb311 hg w22 hbox hb; have n0_ := Aside0.mk (Kd.R_below (by (with_reducible repeat (first | apply Kd.R_alloc | apply Kd.R_drewN | apply Kd.R_drew)); exact HO_6.out) hb); have n1_ := Aside0.mk (below_step (by repeat (first | (with_reducible first | exact HB.out | apply below_alloc | apply pw_below_drewN | apply below_drew1) | exact HB.out)) hb); have n2_ := Aside0.mk (hbox); have n3_ := Aside0.mk ((by rw [hg]; exact (below_size (by repeat (first | (with_reducible first | exact HB.out | apply below_alloc | apply pw_below_drewN | apply below_drew1) | exact HB.out))) : w.heap.size ≤ gb311)); have n4_ := Aside0.mk ((by rw [hg]; exact (below_size (by repeat (first | (with_reducible first | exact HB.out | apply below_alloc | apply pw_below_drewN | apply below_drew1) | exact HB.out))) : w.heap.size ≤ gb311)); clear HO_6; clear HB; have HO_6 := n0_; have HB := n1_; have BK311 := n2_; have GW311 := n3_; have GE311 := n4_; clear n0_ n1_ n2_ n3_ n4_; clear hb hbox hg; have hcz23_0 : w22.cell? ⟨gb311, 0, none⟩ = some (.int .i64 0) := (blk_cell BK311.out 0).trans rfl; have hcz23_1 : w22.cell? ⟨gb311, 1, none⟩ = some (.slice none 0 0) := (blk_cell BK311.out 1).trans rfl; have hcz23_2 : w22.cell? ⟨gb311, 2, none⟩ = some (.int .i64 0) := (blk_cell BK311.out 2).trans rfl; have hcz23_3 : w22.cell? ⟨gb311, 3, none⟩ = some (.int .i64 0) := (blk_cell BK311.out 3).trans rfl; have hcz23_4 : w22.cell? ⟨gb311, 4, none⟩ = some (.int .i64 0) := (blk_cell BK311.out 4).trans rfl; have hfz23_0 := blk_frozen BK311.out 0; have hfz23_1 := blk_frozen BK311.out 1; have hfz23_2 := blk_frozen BK311.out 2; have hfz23_3 := blk_frozen BK311.out 3; have hfz23_4 := blk_frozen BK311.out 4) | ((with_reducible refine gate_callee (f := 59) rfl ?_); refine goesL_ (some 27) rfl rfl Tryz.func59 (by kernel_rfl) rfl #[.agg #[.int .i64 ((rd_T41 l0 x20_2).f0), .slice A310_1 ((rd_T41 l0 x20_2).f1).length c310_1, .int .i64 ((rd_T41 l0 x20_2).f2), .int .i64 ((rd_T41 l0 x20_2).f3), .int .i64 ((rd_T41 l0 x20_2).f4)], .int .i64 a1] rfl (by (try simp only [List.map_toArray, List.map_cons, List.map_nil]); first | done | rfl | (simp only [List.length_drop, List.length_take]; rfl)) ?_; (with_reducible refine (impl_Rule_isActive.calls ((rd_T41 l0 x20_2).f0) _ _ ((rd_T41 l0 x20_2).f1) ((rd_T41 l0 x20_2).f2) ((rd_T41 l0 x20_2).f3) ((rd_T41 l0 x20_2).f4) a1 false _ ?side1 ?side2 A15.out).mono ?_); (case side1 => exact Kd.C_below HR310_1.out (by repeat (first | (with_reducible first | exact HB.out | apply below_alloc | apply pw_below_drewN | apply below_drew1 | refine below_set ?_ GE311.out) | exact HB.out))); (case side2 => exact HC310_1.out); rintro e w24 ⟨rfl, hb⟩; refine ⟨_, rfl, ?_⟩; have n0_ := Aside0.mk (Kd.R_below (by (with_reducible repeat (first | apply Kd.R_alloc | apply Kd.R_drewN | apply Kd.R_drew)); exact (Kd.R_mono (Kd.R_far (p := ⟨gb311, 4, none⟩) (Kd.R_far (p := ⟨gb311, 3, none⟩) (Kd.R_far (p := ⟨gb311, 2, none⟩) (Kd.R_far (p := ⟨gb311, 1, none⟩) (Kd.R_far (p := ⟨gb311, 0, none⟩) (Kd.R_types HO_6.out BK311.out (by decide)) (fun _ hk => hk.2) (.int .i64 ((rd_T41 l0 x20_2).f0))) (fun _ hk => hk.2) (.slice A310_1 ((rd_T41 l0 x20_2).f1).length c310_1)) (fun _ hk => hk.2) (.int .i64 ((rd_T41 l0 x20_2).f2))) (fun _ hk => hk.2) (.int .i64 ((rd_T41 l0 x20_2).f3))) (fun _ hk => hk.2) (.int .i64 ((rd_T41 l0 x20_2).f4))) (fun _ h_ => h_.1))) hb); have n1_ := Aside0.mk (blk_below (g := gb311) (o := .cells #[.int .i64 ((rd_T41 l0 x20_2).f0), .slice A310_1 ((rd_T41 l0 x20_2).f1).length c310_1, .int .i64 ((rd_T41 l0 x20_2).f2), .int .i64 ((rd_T41 l0 x20_2).f3), .int .i64 ((rd_T41 l0 x20_2).f4)] 41 (0, 0)) (by (with_reducible repeat (first | refine blk_drewN ?_ _ | refine blk_drew ?_ | refine blk_alloc ?_ _)); refine blk_put (cs := #[.int .i64 ((rd_T41 l0 x20_2).f0), .slice A310_1 ((rd_T41 l0 x20_2).f1).length c310_1, .int .i64 ((rd_T41 l0 x20_2).f2), .int .i64 ((rd_T41 l0 x20_2).f3), .int .i64 0]) ?_ 4 _ rfl; (with_reducible repeat (first | refine blk_drewN ?_ _ | refine blk_drew ?_ | refine blk_alloc ?_ _)); refine blk_put (cs := #[.int .i64 ((rd_T41 l0 x20_2).f0), .slice A310_1 ((rd_T41 l0 x20_2).f1).length c310_1, .int .i64 ((rd_T41 l0 x20_2).f2), .int .i64 0, .int .i64 0]) ?_ 3 _ rfl; (with_reducible repeat (first | refine blk_drewN ?_ _ | refine blk_drew ?_ | refine blk_alloc ?_ _)); refine blk_put (cs := #[.int .i64 ((rd_T41 l0 x20_2).f0), .slice A310_1 ((rd_T41 l0 x20_2).f1).length c310_1, .int .i64 0, .int .i64 0, .int .i64 0]) ?_ 2 _ rfl; (with_reducible repeat (first | refine blk_drewN ?_ _ | refine blk_drew ?_ | refine blk_alloc ?_ _)); refine blk_put (cs := #[.int .i64 ((rd_T41 l0 x20_2).f0), .slice none 0 0, .int .i64 0, .int .i64 0, .int .i64 0]) ?_ 1 _ rfl; (with_reducible repeat (first | refine blk_drewN ?_ _ | refine blk_drew ?_ | refine blk_alloc ?_ _)); refine blk_put (cs := #[.int .i64 0, .slice none 0 0, .int .i64 0, .int .i64 0, .int .i64 0]) ?_ 0 _ rfl; (with_reducible repeat (first | refine blk_drewN ?_ _ | refine blk_drew ?_ | refine blk_alloc ?_ _)); exact BK311.out) hb); have n2_ := Aside0.mk (below_step (by repeat (first | (with_reducible first | exact HB.out | apply below_alloc | apply pw_below_drewN | apply below_drew1 | refine below_set ?_ GE311.out) | exact HB.out)) hb); clear HO_6; clear BK311; clear HB; have HO_6 := n0_; have BK311 := n1_; have HB := n2_; clear n0_ n1_ n2_; (try clear hb); (try clear hb2); (try clear hk); (try clear hi)))
                    go_roundg k2
                    case measure => have := HJ2.out; have := HK2.out; omega
                    case rel => exact ⟨(x6_2), (wrap64 (x20_2 + 1)), (by first | rfl | (simp; done) | (simp [*]; done)), H', ⟨by have := HJ2.out; have := HK2.out; omega⟩, ⟨by (with_reducible repeat (first | apply Kd.R_alloc | apply Kd.R_drewN | apply Kd.R_drew)); exact HO_6.out⟩, ⟨by repeat (first | (with_reducible first | exact HB.out | apply below_alloc | apply pw_below_drewN | apply below_drew1 | refine below_set ?_ GE311.out) | exact HB.out)⟩⟩
                · rw [if_neg c14] at H
                  exact absurd H (by simp)
              · rw [if_neg c13] at H
                exact absurd H (by simp)
            · rw [if_neg c12] at H
              have c12b0 : decide (x20_2 < (l0.length : Int)) = false := decide_eq_false c12
              clear c12
              simp only [Option.some.injEq, Prod.mk.injEq] at H
              obtain ⟨rfl, rfl⟩ := H
              go_wp2
              go_ret2
              exact ⟨_, by first | rfl | (simp [errW_none, errW_some] <;> rfl) | (simp [*, errW_none, errW_some] <;> rfl), by (with_reducible repeat (first | apply Kd.R_alloc | apply Kd.R_drewN | apply Kd.R_drew)); exact HO_6.out, by repeat (first | (with_reducible first | exact HB.out | apply below_alloc | apply pw_below_drewN | apply below_drew1) | exact HB.out)⟩
/-! ### impl_RulesAt: function 16 -/
def impl_RulesAt.l0 : Nat → List (S41) → Int → List (S41) → List Int → Int → Int → Option ((List (S41)) × Bool)
  | 0, _, _, _, _, _, _ => none
  | k + 1, x0, x1, x8, x21, x22, x23 => if x23 < x22 then (if 0 ≤ x23 then (if x23 < (x21.length : Int) then (if 0 ≤ (rd x21 x23) then (if (rd x21 x23) < (x0.length : Int) then ((impl_cloneRule.f ((rd_T41 x0 (rd x21 x23)).f0) ((rd_T41 x0 (rd x21 x23)).f1) ((rd_T41 x0 (rd x21 x23)).f2) ((rd_T41 x0 (rd x21 x23)).f3) ((rd_T41 x0 (rd x21 x23)).f4)).bind fun bt325 => (if x8.length < 2513169434916 then (impl_RulesAt.l0 k x0 x1 (x8 ++ [(⟨bt325.1, bt325.2.1, x1, x1, bt325.2.2.2.2⟩ : S41)]) x21 x22 (wrap64 (x23 + 1))) else (none))) else (none)) else (none)) else (none)) else (none)) else (some (x8, true))
def impl_RulesAt.f (k : Nat) (l0 : List (S41)) (a1 : Int) : Option ((List (S41)) × Bool) := (impl_ActiveRules.f k l0 a1).bind fun bt316 => (if bt316.2 = true then (impl_RulesAt.l0 k l0 a1 (([] : List (S41))) bt316.1 (bt316.1.length : Int) 0) else (some (([] : List (S41)), false)))
theorem impl_RulesAt.mono_l : ∀ k, (∀ y0 y1 y2 y3 y4 y5, LeO (impl_RulesAt.l0 k y0 y1 y2 y3 y4 y5) (impl_RulesAt.l0 (k + 1) y0 y1 y2 y3 y4 y5))
  | 0 => fun _ _ _ _ _ _ r h => by simp [impl_RulesAt.l0] at h
  | k + 1 => by
    have ih0 := impl_RulesAt.mono_l k
    · intro y0 y1 y2 y3 y4 y5
      unfold impl_RulesAt.l0
      repeat' first
      | (with_reducible exact ih0 _ _ _ _ _ _)
      | (with_reducible exact impl_ActiveRules.mono _ _ _)
      | (with_reducible exact LeO.refl _)
      | (with_reducible exact LeO.none _)
      | (with_reducible refine LeO.ite ?_ ?_)
      | (with_reducible refine LeO.bind ?_ (fun _ => ?_))
      | exact ih0 _ _ _ _ _ _
      | exact impl_ActiveRules.mono _ _ _
      | exact LeO.none _
      | refine LeO.ite ?_ ?_
      | refine LeO.bind ?_ (fun _ => ?_)
theorem impl_RulesAt.mono : ∀ a0 a1 k, LeO (impl_RulesAt.f k a0 a1) (impl_RulesAt.f (k + 1) a0 a1) := by
  intro a0 a1 k
  have ih0 := impl_RulesAt.mono_l k
  unfold impl_RulesAt.f
  repeat' first
      | (with_reducible exact ih0 _ _ _ _ _ _)
      | (with_reducible exact impl_ActiveRules.mono _ _ _)
      | (with_reducible exact LeO.refl _)
      | (with_reducible exact LeO.none _)
      | (with_reducible refine LeO.ite ?_ ?_)
      | (with_reducible refine LeO.bind ?_ (fun _ => ?_))
      | exact ih0 _ _ _ _ _ _
      | exact impl_ActiveRules.mono _ _ _
      | exact LeO.none _
      | refine LeO.ite ?_ ?_
      | refine LeO.bind ?_ (fun _ => ?_)
set_option maxHeartbeats 8000000 in
set_option maxRecDepth 100000 in
theorem impl_RulesAt.calls (k : Nat) (A0 : Option Addr) (c0 : Nat) (l0 : List (S41)) (a1 : Int) (r1 : List (S41)) (r2 : Bool) (w : World) (hr0 : Kd.C k41 w A0 l0.length l0) (hc0 : l0.length ≤ c0) (h : impl_RulesAt.f k l0 a1 = some (r1, r2)) :
    Calls Tryz.prog 16 #[.slice A0 l0.length c0, .int .i64 a1] w fun e w' => ∃ v0_ : Value, e = .returned (.tuple #[v0_, .bool r2]) ∧ Kd.S k41 41 w' w.heap.size (fun _ => True) v0_ r1 ∧ Below w.heap.size w w' := by
  have hu41 := Tryz.underlying41
  have HR0 := Aside0.mk hr0
  have HC0 := Aside0.mk hc0
  clear hr0 hc0
  have HB := Aside0.mk (Below.refl w.heap.size w)
  have H : ((impl_ActiveRules.f k l0 a1).bind fun bt316 => (if bt316.2 = true then (impl_RulesAt.l0 k l0 a1 (([] : List (S41))) bt316.1 (bt316.1.length : Int) 0) else (some (([] : List (S41)), false)))) = some (r1, r2) := h
  clear h
  replace H := Option.bind_eq_some_iff.mp H
  obtain ⟨⟨t316, t317⟩, A30, H⟩ := H
  replace H : (if t317 = true then (impl_RulesAt.l0 k l0 a1 (([] : List (S41))) t316 (t316.length : Int) 0) else (some (([] : List (S41)), false))) = some (r1, r2) := H
  have A3 := Aside0.mk A30
  clear A30
  by_cases c4 : t317 = true
  · subst c4
    have H1 : (impl_RulesAt.l0 k l0 a1 (([] : List (S41))) t316 (t316.length : Int) 0) = some (r1, r2) := by rw [if_pos rfl] at H; exact H
    clear H
    have H := H1
    clear H1
    obtain ⟨y320, hy320⟩ : ∃ y_ : List (S41), y_ = (([] : List (S41))) := ⟨_, rfl⟩
    replace H : (impl_RulesAt.l0 k l0 a1 y320 t316 (t316.length : Int) 0) = some (r1, r2) := by first | (rw [hy320]; with_reducible exact H) | (have H2_ := (Option.bind_some _ _).symm.trans H; rw [hy320]; with_reducible exact H2_) | (have H2_ := (Option.bind_some _ _).symm.trans H; with_reducible exact H2_) | with_reducible exact H | (rw [hy320]; exact H) | exact H
    have Ny320 := Aside0.mk hy320
    clear hy320
    have H' := Aside0.mk H
    clear H
    go_enter Tryz.func16, Tryz.ntmps16
    go_wp2_with (first | ((with_reducible refine gate_callee (f := 44) rfl ?_); refine goesL_ (some 15) rfl rfl Tryz.func44 (by kernel_rfl) rfl #[.slice A0 l0.length c0, .int .i64 a1] rfl (by (try simp only [List.map_toArray, List.map_cons, List.map_nil]); first | done | rfl | (simp only [List.length_drop, List.length_take]; rfl)) ?_; (with_reducible refine (impl_ActiveRules.calls k _ _ l0 a1 t316 true _ ?side1 ?side2 A3.out).mono ?_); (case side1 => repeat (first | exact HR0.out | (with_reducible refine Kd.C_alloc ?_ _) | (with_reducible refine Kd.C_drewN ?_ _) | (with_reducible refine Kd.C_drew ?_))); (case side2 => exact HC0.out); rintro e w5 ⟨v318, rfl, ho0, hb⟩; refine ⟨_, rfl, ?_⟩; have n0_ := Aside0.mk (Kd.R_lower ho0 (below_size (by repeat (first | (with_reducible first | exact HB.out | apply below_alloc | apply pw_below_drewN | apply below_drew1) | exact HB.out)))); have n1_ := Aside0.mk (below_step (by repeat (first | (with_reducible first | exact HB.out | apply below_alloc | apply pw_below_drewN | apply below_drew1) | exact HB.out)) hb); clear HB; have HO319 := n0_; have HB := n1_; clear n0_ n1_; (try clear hb); (try clear hb2); (try clear hk); (try clear hi); (try clear ho0)) | ((with_reducible refine gate_dst (N := 20) rfl ?_); refine Kd.S_lit k41 _ 41 ?hg (N := 20) ?hd (xs := ([] : List (S41))) (inner := []) (ok := fun _ => True) (okp := fun _ => True) ?hr ?hp (fun _ hk => hk) trivial (Below.refl _ _) (Nat.le_refl _) (by simp) ?_; (case hd => rfl); (case hg => rfl); (case hr => first | (go_simp; done) | (go_simp; rfl)); (case hp => exact (Reps.none _ _)); intro v321 w6 ho7 hb hg_ hnew_; clear hg_ hnew_; (first | rw [← Ny320.out] at ho7 | (simp only [Int.reduceToNat] at ho7; rw [← Ny320.out] at ho7)); have n0_ := Aside0.mk (Kd.R_below (by (with_reducible repeat (first | apply Kd.R_alloc | apply Kd.R_drewN | apply Kd.R_drew)); exact HO319.out) hb); have n1_ := Aside0.mk (Kd.S_lower (Kd.S_new' ho7 (Kd.R_lt (by (with_reducible repeat (first | apply Kd.R_alloc | apply Kd.R_drewN | apply Kd.R_drew)); exact HO319.out))) (below_size (by repeat (first | (with_reducible first | exact HB.out | apply below_alloc | apply pw_below_drewN | apply below_drew1) | exact HB.out)))); have n2_ := Aside0.mk (below_step (by repeat (first | (with_reducible first | exact HB.out | apply below_alloc | apply pw_below_drewN | apply below_drew1) | exact HB.out)) hb); clear HO319; clear HB; have HO319 := n0_; have HO322 := n1_; have HB := n2_; clear n0_ n1_ n2_; clear hb ho7; obtain ⟨Ao8, co8, eo8⟩ := Kd.R_slice HO319.out; subst eo8))
    go_loopg [8, 23] k (fun kq v8 v23 w' => ∃ (x8_1 : List (S41)) (x23_1 : Int), v23 = .int .i64 x23_1 ∧ Aside0 (impl_RulesAt.l0 kq l0 a1 x8_1 t316 (t316.length : Int) x23_1 = some (r1, r2)) ∧ Aside0 (kq ≤ k) ∧ Aside0 (Kd.S k41 41 w' w.heap.size (fun k_ => some k_ ≠ ((.slice Ao8 t316.length co8) : Value).ownBlock) v8 x8_1) ∧ Aside0 (Kd.R (Kd.int .i64) 2 w' w.heap.size (fun _ => True) (.slice Ao8 t316.length co8) t316) ∧ Aside0 (Below w.heap.size w w'))
    case atStart => exact ⟨(y320), (0), (by first | rfl | (simp; done) | (simp [*]; done)), H', ⟨Nat.le_refl _⟩, ⟨by (with_reducible repeat (first | apply Kd.S_alloc | apply Kd.S_drewN | apply Kd.S_drew)); exact Kd.S_mono HO322.out (fun _ hk => hk.2)⟩, ⟨by (with_reducible repeat (first | apply Kd.R_alloc | apply Kd.R_drewN | apply Kd.R_drew)); exact HO319.out⟩, ⟨by repeat (first | (with_reducible first | exact HB.out | apply below_alloc | apply pw_below_drewN | apply below_drew1) | exact HB.out)⟩⟩
    case round =>
      clear H'
      try clear c1
      try clear p2
      try clear c4
      obtain ⟨x8_1, x23_1, rfl, HA, HK1, HO_8, HO_21, HB⟩ := hrel
      cases gk with
      | zero => exact absurd HA.out (by simp [impl_RulesAt.l0])
      | succ k1 =>
        have H := HA.out
        clear HA
        simp only [impl_RulesAt.l0] at H
        by_cases c9 : x23_1 < (t316.length : Int)
        · rw [if_pos c9] at H
          have c9b0 : decide (x23_1 < (t316.length : Int)) = true := decide_eq_true c9
          clear c9
          by_cases c10 : 0 ≤ x23_1
          · rw [if_pos c10] at H
            have c10b0 : decide (0 ≤ x23_1) = true := decide_eq_true c10
            clear c10
            by_cases c11 : x23_1 < (t316.length : Int)
            · rw [if_pos c11] at H
              have c11b0 : decide (x23_1 < (t316.length : Int)) = true := decide_eq_true c11
              clear c11
              by_cases c12 : 0 ≤ (rd t316 x23_1)
              · rw [if_pos c12] at H
                have c12b0 : decide (0 ≤ (rd t316 x23_1)) = true := decide_eq_true c12
                clear c12
                by_cases c13 : (rd t316 x23_1) < (l0.length : Int)
                · rw [if_pos c13] at H
                  have c13b0 : decide ((rd t316 x23_1) < (l0.length : Int)) = true := decide_eq_true c13
                  clear c13
                  replace H := Option.bind_eq_some_iff.mp H
                  obtain ⟨⟨t325, t326, t329, t330, t331⟩, A140, H⟩ := H
                  replace H : (if x8_1.length < 2513169434916 then (impl_RulesAt.l0 k1 l0 a1 (x8_1 ++ [(⟨t325, t326, a1, a1, t331⟩ : S41)]) t316 (t316.length : Int) (wrap64 (x23_1 + 1))) else (none)) = some (r1, r2) := H
                  have A14 := Aside0.mk A140
                  clear A140
                  by_cases c15 : x8_1.length < 2513169434916
                  · rw [if_pos c15] at H
                    have LMc15 := Aside0.mk c15
                    clear c15
                    obtain ⟨y333, hy333⟩ : ∃ y_ : List (S41), y_ = (x8_1 ++ [(⟨t325, t326, a1, a1, t331⟩ : S41)]) := ⟨_, rfl⟩
                    replace H : (impl_RulesAt.l0 k1 l0 a1 y333 t316 (t316.length : Int) (wrap64 (x23_1 + 1))) = some (r1, r2) := by first | (rw [hy333]; with_reducible exact H) | (have H2_ := (Option.bind_some _ _).symm.trans H; rw [hy333]; with_reducible exact H2_) | (have H2_ := (Option.bind_some _ _).symm.trans H; with_reducible exact H2_) | with_reducible exact H | (rw [hy333]; exact H) | exact H
                    have Ny333 := Aside0.mk hy333
                    clear hy333
                    have H' := Aside0.mk H
                    clear H
                    have p323 : 0 ≤ (x23_1 : Int) := of_decide_eq_true (by first | (with_reducible assumption) | assumption)
                    have q323 : x23_1 < (t316.length : Int) := of_decide_eq_true (by first | (with_reducible assumption) | assumption)
                    obtain ⟨ad323, e323, hx323_0⟩ := Kd.at_int (Kd.R_reads' HO_21.out).2.2 x23_1 p323 q323
                    cases e323
                    replace p323 := eq_true p323
                    replace q323 := eq_true q323
                    have p324 : 0 ≤ ((rd t316 x23_1) : Int) := of_decide_eq_true (by first | (with_reducible assumption) | assumption)
                    have q324 : (rd t316 x23_1) < (l0.length : Int) := of_decide_eq_true (by first | (with_reducible assumption) | assumption)
                    obtain ⟨ad324, A324_1, c324_1, e324, hx324_0, hx324_1, hx324_2, hx324_3, hx324_4, hl324_1, hi324_1⟩ := at_T41 HR0.out (rd t316 x23_1) p324 q324
                    cases e324
                    replace hx324_0 := (HB.out.cell (World.block_lt_of_cell? w _ hx324_0)).trans hx324_0
                    replace hx324_1 := (HB.out.cell (World.block_lt_of_cell? w _ hx324_1)).trans hx324_1
                    replace hx324_2 := (HB.out.cell (World.block_lt_of_cell? w _ hx324_2)).trans hx324_2
                    replace hx324_3 := (HB.out.cell (World.block_lt_of_cell? w _ hx324_3)).trans hx324_3
                    replace hx324_4 := (HB.out.cell (World.block_lt_of_cell? w _ hx324_4)).trans hx324_4
                    have HR324_1 := Aside0.mk hi324_1
                    have HC324_1 := Aside0.mk hl324_1
                    clear hi324_1 hl324_1
                    replace p324 := eq_true p324
                    replace q324 := eq_true q324
                    go_wp2_with (first | ((with_reducible refine gate_callee (f := 45) rfl ?_); refine goesL_ (some 31) rfl rfl Tryz.func45 (by kernel_rfl) rfl #[.agg #[.int .i64 ((rd_T41 l0 (rd t316 x23_1)).f0), .slice A324_1 ((rd_T41 l0 (rd t316 x23_1)).f1).length c324_1, .int .i64 ((rd_T41 l0 (rd t316 x23_1)).f2), .int .i64 ((rd_T41 l0 (rd t316 x23_1)).f3), .int .i64 ((rd_T41 l0 (rd t316 x23_1)).f4)]] rfl (by (try simp only [List.map_toArray, List.map_cons, List.map_nil]); first | done | rfl | (simp only [List.length_drop, List.length_take]; rfl)) ?_; (with_reducible refine (impl_cloneRule.calls ((rd_T41 l0 (rd t316 x23_1)).f0) _ _ ((rd_T41 l0 (rd t316 x23_1)).f1) ((rd_T41 l0 (rd t316 x23_1)).f2) ((rd_T41 l0 (rd t316 x23_1)).f3) ((rd_T41 l0 (rd t316 x23_1)).f4) t325 t326 t329 t330 t331 _ ?side1 ?side2 A14.out).mono ?_); (case side1 => repeat (first | exact (Kd.C_below HR324_1.out HB.out) | (with_reducible refine Kd.C_alloc ?_ _) | (with_reducible refine Kd.C_drewN ?_ _) | (with_reducible refine Kd.C_drew ?_))); (case side2 => exact HC324_1.out); rintro e w16 ⟨v327, rfl, ho0, hb⟩; refine ⟨_, rfl, ?_⟩; have n0_ := Aside0.mk (Kd.S_elder' (by (with_reducible repeat (first | apply Kd.S_alloc | apply Kd.S_drewN | apply Kd.S_drew)); exact HO_8.out) (Kd.R_base ho0) hb); have n1_ := Aside0.mk (Kd.R_elder' (by (with_reducible repeat (first | apply Kd.R_alloc | apply Kd.R_drewN | apply Kd.R_drew)); exact HO_21.out) (Kd.R_base ho0) hb); have n2_ := Aside0.mk (Kd.R_lower (Kd.R_new' ho0 (Kd.R_lt (by (with_reducible repeat (first | apply Kd.R_alloc | apply Kd.R_drewN | apply Kd.R_drew)); exact HO_21.out))) (below_size (by repeat (first | (with_reducible first | exact HB.out | apply below_alloc | apply pw_below_drewN | apply below_drew1) | exact HB.out)))); have n3_ := Aside0.mk (below_step (by repeat (first | (with_reducible first | exact HB.out | apply below_alloc | apply pw_below_drewN | apply below_drew1) | exact HB.out)) hb); clear HO_8; clear HO_21; clear HB; have HO_8 := n0_; have HO_21 := n1_; have HO328 := n2_; have HB := n3_; clear n0_ n1_ n2_ n3_; (try clear hb); (try clear hb2); (try clear hk); (try clear hi); (try clear ho0)) | ((with_reducible refine gate_dst (N := 11) rfl ?_); refine box_event ?hg (N := 11) ?hd (cs := #[.int .i64 0, .slice none 0 0, .int .i64 0, .int .i64 0, .int .i64 0]) (t := 41) ?hr ?_; (case hd => rfl); (case hg => rfl); (case hr => first | (go_simp; done) | (go_simp; rfl)); intro gb332 hg w17 hbox hb; have n0_ := Aside0.mk (Kd.S_below (Kd.S_elderB (by (with_reducible repeat (first | apply Kd.S_alloc | apply Kd.S_drewN | apply Kd.S_drew)); exact HO_8.out) gb332 (Nat.le_of_eq hg.symm)) hb); have n1_ := Aside0.mk (Kd.R_below (by (with_reducible repeat (first | apply Kd.R_alloc | apply Kd.R_drewN | apply Kd.R_drew)); exact HO_21.out) hb); have n2_ := Aside0.mk (Kd.R_below (by (with_reducible repeat (first | apply Kd.R_alloc | apply Kd.R_drewN | apply Kd.R_drew)); exact HO328.out) hb); have n3_ := Aside0.mk (below_step (by repeat (first | (with_reducible first | exact HB.out | apply below_alloc | apply pw_below_drewN | apply below_drew1) | exact HB.out)) hb); have n4_ := Aside0.mk (hbox); have n5_ := Aside0.mk ((by rw [hg]; exact (below_size (by repeat (first | (with_reducible first | exact HB.out | apply below_alloc | apply pw_below_drewN | apply below_drew1) | exact HB.out))) : w.heap.size ≤ gb332)); have n6_ := Aside0.mk ((by rw [hg]; exact (below_size (by repeat (first | (with_reducible first | exact HB.out | apply below_alloc | apply pw_below_drewN | apply below_drew1) | exact HB.out))) : w.heap.size ≤ gb332)); clear HO_8; clear HO_21; clear HO328; clear HB; have HO_8 := n0_; have HO_21 := n1_; have HO328 := n2_; have HB := n3_; have BK332 := n4_; have GW332 := n5_; have GE332 := n6_; clear n0_ n1_ n2_ n3_ n4_ n5_ n6_; clear hb hbox hg; have hcz18_0 : w17.cell? ⟨gb332, 0, none⟩ = some (.int .i64 0) := (blk_cell BK332.out 0).trans rfl; have hcz18_1 : w17.cell? ⟨gb332, 1, none⟩ = some (.slice none 0 0) := (blk_cell BK332.out 1).trans rfl; have hcz18_2 : w17.cell? ⟨gb332, 2, none⟩ = some (.int .i64 0) := (blk_cell BK332.out 2).trans rfl; have hcz18_3 : w17.cell? ⟨gb332, 3, none⟩ = some (.int .i64 0) := (blk_cell BK332.out 3).trans rfl; have hcz18_4 : w17.cell? ⟨gb332, 4, none⟩ = some (.int .i64 0) := (blk_cell BK332.out 4).trans rfl; have hfz18_0 := blk_frozen BK332.out 0; have hfz18_1 := blk_frozen BK332.out 1; have hfz18_2 := blk_frozen BK332.out 2; have hfz18_3 := blk_frozen BK332.out 3; have hfz18_4 := blk_frozen BK332.out 4; obtain ⟨Ao19, co19, eo19⟩ := Kd.R_slice HO328.out; subst eo19) | ((with_reducible refine gate_store (t := 41) (p := 11) rfl ?_); refine store_event (t := 41) (p := 11) (v := ?vo_w20) (w1 := (((((w17.setCell ⟨gb332, 0, none⟩ (.int .i64 t325)).setCell ⟨gb332, 1, none⟩ (.slice Ao19 t326.length co19)).setCell ⟨gb332, 2, none⟩ (.int .i64 t329)).setCell ⟨gb332, 3, none⟩ (.int .i64 t330)).setCell ⟨gb332, 4, none⟩ (.int .i64 t331))) ?hg ?ho ?hn ?hr ?_; (case ho => rfl); (case hg => rfl); (case hn => rfl); (case hr => first | (go_simp; done) | (go_simp; rfl)); intro w20 hw; have n0_ : Aside0 (Kd.S k41 41 w20 w.heap.size (fun k_ => some k_ ≠ (.slice (some ad323) t316.length co8 : Value).ownBlock ∧ some k_ ≠ (.slice Ao19 t326.length co19 : Value).ownBlock ∧ k_ ≠ gb332) u8 x8_1) := ⟨(by rw [hw]; exact (by (with_reducible repeat (first | apply Kd.S_alloc | apply Kd.S_drewN | apply Kd.S_drew)); exact Kd.S_mono (Kd.S_far (p := ⟨gb332, 4, none⟩) (Kd.S_far (p := ⟨gb332, 3, none⟩) (Kd.S_far (p := ⟨gb332, 2, none⟩) (Kd.S_far (p := ⟨gb332, 1, none⟩) (Kd.S_far (p := ⟨gb332, 0, none⟩) (Kd.S_mono HO_8.out (fun k_ hk => (⟨hk, hk.2⟩ : _ ∧ k_ ≠ gb332))) (fun _ hk => hk.2) (.int .i64 t325)) (fun _ hk => hk.2) (.slice Ao19 t326.length co19)) (fun _ hk => hk.2) (.int .i64 t329)) (fun _ hk => hk.2) (.int .i64 t330)) (fun _ hk => hk.2) (.int .i64 t331)) (fun _ hk => ⟨hk.1.1.1, ⟨hk.1.1.2, hk.1.2⟩⟩)))⟩; have n1_ : Aside0 (Kd.R (Kd.int .i64) 2 w20 w.heap.size (fun k_ => some k_ ≠ (.slice Ao19 t326.length co19 : Value).ownBlock) (.slice (some ad323) t316.length co8) t316) := ⟨(by rw [hw]; exact (by (with_reducible repeat (first | apply Kd.R_alloc | apply Kd.R_drewN | apply Kd.R_drew)); exact Kd.R_mono (Kd.R_far (p := ⟨gb332, 4, none⟩) (Kd.R_far (p := ⟨gb332, 3, none⟩) (Kd.R_far (p := ⟨gb332, 2, none⟩) (Kd.R_far (p := ⟨gb332, 1, none⟩) (Kd.R_far (p := ⟨gb332, 0, none⟩) (Kd.R_types HO_21.out BK332.out (by decide)) (fun _ hk => hk.2) (.int .i64 t325)) (fun _ hk => hk.2) (.slice Ao19 t326.length co19)) (fun _ hk => hk.2) (.int .i64 t329)) (fun _ hk => hk.2) (.int .i64 t330)) (fun _ hk => hk.2) (.int .i64 t331)) (fun _ hk => hk.1.2)))⟩; have n2_ : Aside0 (Kd.R (Kd.int .i64) 2 w20 w.heap.size (fun k_ => some k_ ≠ (.slice (some ad323) t316.length co8 : Value).ownBlock) (.slice Ao19 t326.length co19) t326) := ⟨(by rw [hw]; exact (by (with_reducible repeat (first | apply Kd.R_alloc | apply Kd.R_drewN | apply Kd.R_drew)); exact Kd.R_mono (Kd.R_far (p := ⟨gb332, 4, none⟩) (Kd.R_far (p := ⟨gb332, 3, none⟩) (Kd.R_far (p := ⟨gb332, 2, none⟩) (Kd.R_far (p := ⟨gb332, 1, none⟩) (Kd.R_far (p := ⟨gb332, 0, none⟩) (Kd.R_types HO328.out BK332.out (by decide)) (fun _ hk => hk.2) (.int .i64 t325)) (fun _ hk => hk.2) (.slice Ao19 t326.length co19)) (fun _ hk => hk.2) (.int .i64 t329)) (fun _ hk => hk.2) (.int .i64 t330)) (fun _ hk => hk.2) (.int .i64 t331)) (fun _ hk => hk.1.2)))⟩; have n3_ : Aside0 (w20.heap[gb332]? = some (.cells #[.int .i64 t325, .slice Ao19 t326.length co19, .int .i64 t329, .int .i64 t330, .int .i64 t331] 41 (0, 0))) := ⟨(by rw [hw]; exact (by (with_reducible repeat (first | refine blk_drewN ?_ _ | refine blk_drew ?_ | refine blk_alloc ?_ _)); refine blk_put (cs := #[.int .i64 t325, .slice Ao19 t326.length co19, .int .i64 t329, .int .i64 t330, .int .i64 0]) ?_ 4 _ rfl; (with_reducible repeat (first | refine blk_drewN ?_ _ | refine blk_drew ?_ | refine blk_alloc ?_ _)); refine blk_put (cs := #[.int .i64 t325, .slice Ao19 t326.length co19, .int .i64 t329, .int .i64 0, .int .i64 0]) ?_ 3 _ rfl; (with_reducible repeat (first | refine blk_drewN ?_ _ | refine blk_drew ?_ | refine blk_alloc ?_ _)); refine blk_put (cs := #[.int .i64 t325, .slice Ao19 t326.length co19, .int .i64 0, .int .i64 0, .int .i64 0]) ?_ 2 _ rfl; (with_reducible repeat (first | refine blk_drewN ?_ _ | refine blk_drew ?_ | refine blk_alloc ?_ _)); refine blk_put (cs := #[.int .i64 t325, .slice none 0 0, .int .i64 0, .int .i64 0, .int .i64 0]) ?_ 1 _ rfl; (with_reducible repeat (first | refine blk_drewN ?_ _ | refine blk_drew ?_ | refine blk_alloc ?_ _)); refine blk_put (cs := #[.int .i64 0, .slice none 0 0, .int .i64 0, .int .i64 0, .int .i64 0]) ?_ 0 _ rfl; (with_reducible repeat (first | refine blk_drewN ?_ _ | refine blk_drew ?_ | refine blk_alloc ?_ _)); exact BK332.out))⟩; have n4_ : Aside0 (Below w.heap.size w w20) := ⟨(by rw [hw]; exact (by repeat (first | (with_reducible first | exact HB.out | apply below_alloc | apply pw_below_drewN | apply below_drew1 | refine below_set ?_ GE332.out) | exact HB.out)))⟩; clear hw; clear HO_8; clear HO_21; clear HO328; clear BK332; clear HB; have HO_8 := n0_; have HO_21 := n1_; have HO328 := n2_; have BK332 := n3_; have HB := n4_; clear n0_ n1_ n2_ n3_ n4_; have hcz21_0 : w20.cell? ⟨gb332, 0, none⟩ = some (.int .i64 t325) := (blk_cell BK332.out 0).trans rfl; have hcz21_1 : w20.cell? ⟨gb332, 1, none⟩ = some (.slice Ao19 t326.length co19) := (blk_cell BK332.out 1).trans rfl; have hcz21_2 : w20.cell? ⟨gb332, 2, none⟩ = some (.int .i64 t329) := (blk_cell BK332.out 2).trans rfl; have hcz21_3 : w20.cell? ⟨gb332, 3, none⟩ = some (.int .i64 t330) := (blk_cell BK332.out 3).trans rfl; have hcz21_4 : w20.cell? ⟨gb332, 4, none⟩ = some (.int .i64 t331) := (blk_cell BK332.out 4).trans rfl; have hfz21_0 := blk_frozen BK332.out 0; have hfz21_1 := blk_frozen BK332.out 1; have hfz21_2 := blk_frozen BK332.out 2; have hfz21_3 := blk_frozen BK332.out 3; have hfz21_4 := blk_frozen BK332.out 4) | ((with_reducible refine gate_store (t := 2) (p := 34) rfl ?_); refine store_event (t := 2) (p := 34) (v := ?vo_w22) (w1 := (w20.setCell ⟨gb332, 2, none⟩ (.int .i64 a1))) ?hg ?ho ?hn ?hr ?_; (case ho => rfl); (case hg => rfl); (case hn => rfl); (case hr => first | (go_simp; done) | (go_simp; rfl)); intro w22 hw; have n0_ : Aside0 (Kd.S k41 41 w22 w.heap.size (fun k_ => some k_ ≠ (.slice (some ad323) t316.length co8 : Value).ownBlock ∧ some k_ ≠ (.slice Ao19 t326.length co19 : Value).ownBlock ∧ k_ ≠ gb332) u8 x8_1) := ⟨(by rw [hw]; exact (by (with_reducible repeat (first | apply Kd.S_alloc | apply Kd.S_drewN | apply Kd.S_drew)); exact Kd.S_mono (Kd.S_far (p := ⟨gb332, 2, none⟩) (Kd.S_mono HO_8.out (fun k_ hk => (⟨hk, hk.2.2⟩ : _ ∧ k_ ≠ gb332))) (fun _ hk => hk.2) (.int .i64 a1)) (fun _ hk => ⟨hk.1.1, ⟨hk.1.2.1, hk.1.2.2⟩⟩)))⟩; have n1_ : Aside0 (Kd.R (Kd.int .i64) 2 w22 w.heap.size (fun k_ => some k_ ≠ (.slice Ao19 t326.length co19 : Value).ownBlock) (.slice (some ad323) t316.length co8) t316) := ⟨(by rw [hw]; exact (by (with_reducible repeat (first | apply Kd.R_alloc | apply Kd.R_drewN | apply Kd.R_drew)); exact Kd.R_mono (Kd.R_far (p := ⟨gb332, 2, none⟩) (Kd.R_types HO_21.out BK332.out (by decide)) (fun _ hk => hk.2) (.int .i64 a1)) (fun _ hk => hk.1)))⟩; have n2_ : Aside0 (Kd.R (Kd.int .i64) 2 w22 w.heap.size (fun k_ => some k_ ≠ (.slice (some ad323) t316.length co8 : Value).ownBlock) (.slice Ao19 t326.length co19) t326) := ⟨(by rw [hw]; exact (by (with_reducible repeat (first | apply Kd.R_alloc | apply Kd.R_drewN | apply Kd.R_drew)); exact Kd.R_mono (Kd.R_far (p := ⟨gb332, 2, none⟩) (Kd.R_types HO328.out BK332.out (by decide)) (fun _ hk => hk.2) (.int .i64 a1)) (fun _ hk => hk.1)))⟩; have n3_ : Aside0 (w22.heap[gb332]? = some (.cells #[.int .i64 t325, .slice Ao19 t326.length co19, .int .i64 a1, .int .i64 t330, .int .i64 t331] 41 (0, 0))) := ⟨(by rw [hw]; exact (by (with_reducible repeat (first | refine blk_drewN ?_ _ | refine blk_drew ?_ | refine blk_alloc ?_ _)); refine blk_put (cs := #[.int .i64 t325, .slice Ao19 t326.length co19, .int .i64 t329, .int .i64 t330, .int .i64 t331]) ?_ 2 _ rfl; (with_reducible repeat (first | refine blk_drewN ?_ _ | refine blk_drew ?_ | refine blk_alloc ?_ _)); exact BK332.out))⟩; have n4_ : Aside0 (Below w.heap.size w w22) := ⟨(by rw [hw]; exact (by repeat (first | (with_reducible first | exact HB.out | apply below_alloc | apply pw_below_drewN | apply below_drew1 | refine below_set ?_ GE332.out) | exact HB.out)))⟩; clear hw; clear HO_8; clear HO_21; clear HO328; clear BK332; clear HB; have HO_8 := n0_; have HO_21 := n1_; have HO328 := n2_; have BK332 := n3_; have HB := n4_; clear n0_ n1_ n2_ n3_ n4_; have hcz23_0 : w22.cell? ⟨gb332, 0, none⟩ = some (.int .i64 t325) := (blk_cell BK332.out 0).trans rfl; have hcz23_1 : w22.cell? ⟨gb332, 1, none⟩ = some (.slice Ao19 t326.length co19) := (blk_cell BK332.out 1).trans rfl; have hcz23_2 : w22.cell? ⟨gb332, 2, none⟩ = some (.int .i64 a1) := (blk_cell BK332.out 2).trans rfl; have hcz23_3 : w22.cell? ⟨gb332, 3, none⟩ = some (.int .i64 t330) := (blk_cell BK332.out 3).trans rfl; have hcz23_4 : w22.cell? ⟨gb332, 4, none⟩ = some (.int .i64 t331) := (blk_cell BK332.out 4).trans rfl; have hfz23_0 := blk_frozen BK332.out 0; have hfz23_1 := blk_frozen BK332.out 1; have hfz23_2 := blk_frozen BK332.out 2; have hfz23_3 := blk_frozen BK332.out 3; have hfz23_4 := blk_frozen BK332.out 4) | ((with_reducible refine gate_store (t := 2) (p := 35) rfl ?_); refine store_event (t := 2) (p := 35) (v := ?vo_w24) (w1 := (w22.setCell ⟨gb332, 3, none⟩ (.int .i64 a1))) ?hg ?ho ?hn ?hr ?_; (case ho => rfl); (case hg => rfl); (case hn => rfl); (case hr => first | (go_simp; done) | (go_simp; rfl)); intro w24 hw; have n0_ : Aside0 (Kd.S k41 41 w24 w.heap.size (fun k_ => some k_ ≠ (.slice (some ad323) t316.length co8 : Value).ownBlock ∧ some k_ ≠ (.slice Ao19 t326.length co19 : Value).ownBlock ∧ k_ ≠ gb332) u8 x8_1) := ⟨(by rw [hw]; exact (by (with_reducible repeat (first | apply Kd.S_alloc | apply Kd.S_drewN | apply Kd.S_drew)); exact Kd.S_mono (Kd.S_far (p := ⟨gb332, 3, none⟩) (Kd.S_mono HO_8.out (fun k_ hk => (⟨hk, hk.2.2⟩ : _ ∧ k_ ≠ gb332))) (fun _ hk => hk.2) (.int .i64 a1)) (fun _ hk => ⟨hk.1.1, ⟨hk.1.2.1, hk.1.2.2⟩⟩)))⟩; have n1_ : Aside0 (Kd.R (Kd.int .i64) 2 w24 w.heap.size (fun k_ => some k_ ≠ (.slice Ao19 t326.length co19 : Value).ownBlock) (.slice (some ad323) t316.length co8) t316) := ⟨(by rw [hw]; exact (by (with_reducible repeat (first | apply Kd.R_alloc | apply Kd.R_drewN | apply Kd.R_drew)); exact Kd.R_mono (Kd.R_far (p := ⟨gb332, 3, none⟩) (Kd.R_types HO_21.out BK332.out (by decide)) (fun _ hk => hk.2) (.int .i64 a1)) (fun _ hk => hk.1)))⟩; have n2_ : Aside0 (Kd.R (Kd.int .i64) 2 w24 w.heap.size (fun k_ => some k_ ≠ (.slice (some ad323) t316.length co8 : Value).ownBlock) (.slice Ao19 t326.length co19) t326) := ⟨(by rw [hw]; exact (by (with_reducible repeat (first | apply Kd.R_alloc | apply Kd.R_drewN | apply Kd.R_drew)); exact Kd.R_mono (Kd.R_far (p := ⟨gb332, 3, none⟩) (Kd.R_types HO328.out BK332.out (by decide)) (fun _ hk => hk.2) (.int .i64 a1)) (fun _ hk => hk.1)))⟩; have n3_ : Aside0 (w24.heap[gb332]? = some (.cells #[.int .i64 t325, .slice Ao19 t326.length co19, .int .i64 a1, .int .i64 a1, .int .i64 t331] 41 (0, 0))) := ⟨(by rw [hw]; exact (by (with_reducible repeat (first | refine blk_drewN ?_ _ | refine blk_drew ?_ | refine blk_alloc ?_ _)); refine blk_put (cs := #[.int .i64 t325, .slice Ao19 t326.length co19, .int .i64 a1, .int .i64 t330, .int .i64 t331]) ?_ 3 _ rfl; (with_reducible repeat (first | refine blk_drewN ?_ _ | refine blk_drew ?_ | refine blk_alloc ?_ _)); exact BK332.out))⟩; have n4_ : Aside0 (Below w.heap.size w w24) := ⟨(by rw [hw]; exact (by repeat (first | (with_reducible first | exact HB.out | apply below_alloc | apply pw_below_drewN | apply below_drew1 | refine below_set ?_ GE332.out) | exact HB.out)))⟩; clear hw; clear HO_8; clear HO_21; clear HO328; clear BK332; clear HB; have HO_8 := n0_; have HO_21 := n1_; have HO328 := n2_; have BK332 := n3_; have HB := n4_; clear n0_ n1_ n2_ n3_ n4_; have hcz25_0 : w24.cell? ⟨gb332, 0, none⟩ = some (.int .i64 t325) := (blk_cell BK332.out 0).trans rfl; have hcz25_1 : w24.cell? ⟨gb332, 1, none⟩ = some (.slice Ao19 t326.length co19) := (blk_cell BK332.out 1).trans rfl; have hcz25_2 : w24.cell? ⟨gb332, 2, none⟩ = some (.int .i64 a1) := (blk_cell BK332.out 2).trans rfl; have hcz25_3 : w24.cell? ⟨gb332, 3, none⟩ = some (.int .i64 a1) := (blk_cell BK332.out 3).trans rfl; have hcz25_4 : w24.cell? ⟨gb332, 4, none⟩ = some (.int .i64 t331) := (blk_cell BK332.out 4).trans rfl; have hfz25_0 := blk_frozen BK332.out 0; have hfz25_1 := blk_frozen BK332.out 1; have hfz25_2 := blk_frozen BK332.out 2; have hfz25_3 := blk_frozen BK332.out 3; have hfz25_4 := blk_frozen BK332.out 4) | ((with_reducible refine gate_builtin (b := .append) (xs := #[.tmp 36, .tmp 38]) rfl ?_); at_builtin; refine Kd.S_append k41 (w0 := w) w.heap.size rfl (.tmp 36) (.tmp 38) 24 41 (.agg #[(.int .i64 0), (.slice none 0 0), (.int .i64 0), (.int .i64 0), (.int .i64 0)]) 56 rfl Tryz.underlying24 info41 rfl (by decide) (by omega) u8 x8_1 (⟨t325, t326, a1, a1, t331⟩ : S41) [.int .i64 t325, .slice Ao19 t326.length co19, .int .i64 a1, .int .i64 a1, .int .i64 t331] (fun k_ => some k_ ≠ (.slice (some ad323) t316.length co8 : Value).ownBlock ∧ k_ ≠ gb332) (fun k_ => some k_ = (.slice Ao19 t326.length co19 : Value).ownBlock) rfl rfl ?aP (fun k_ hk_ => ((Kd.R_mono (ok' := fun k_ => ((fun k_ => some k_ ≠ (.slice (some ad323) t316.length co8 : Value).ownBlock ∧ k_ ≠ gb332)) k_ ∧ some k_ ≠ (u8 : Value).ownBlock) (Kd.R_types (Kd.R_apart' (HO328.out) (Kd.S_typed HO_8.out) (by decide)) BK332.out (by decide)) (fun k_ hk => ⟨⟨hk.1.1, hk.2⟩, hk.1.2⟩))).1 k_ hk_.symm) ?aF ?aO ?aB ?aS ?aL ?_; (case aP => exact k41_mkM _ _ _ (⟨t325, t326, a1, a1, t331⟩ : S41) (Kd.R_mono (Kd.R_tight rfl (Kd.R_mono (ok' := fun k_ => ((fun k_ => some k_ ≠ (.slice (some ad323) t316.length co8 : Value).ownBlock ∧ k_ ≠ gb332)) k_ ∧ some k_ ≠ (u8 : Value).ownBlock) (Kd.R_types (Kd.R_apart' (HO328.out) (Kd.S_typed HO_8.out) (by decide)) BK332.out (by decide)) (fun k_ hk => ⟨⟨hk.1.1, hk.2⟩, hk.1.2⟩))) (fun _ h_ => h_))); (case aB => exact (by repeat (first | (with_reducible first | exact HB.out | apply below_alloc | apply pw_below_drewN | apply below_drew1 | refine below_set ?_ GE332.out) | exact HB.out))); (case aF => exact (fun k_ hk => ⟨Kd.fresh' (Kd.R_lt (by (with_reducible repeat (first | apply Kd.R_alloc | apply Kd.R_drewN | apply Kd.R_drew)); exact HO_21.out)) k_ hk, Kd.freshB (g := gb332) (o := .cells #[.int .i64 t325, .slice Ao19 t326.length co19, .int .i64 a1, .int .i64 a1, .int .i64 t331] 41 (0, 0)) (by (with_reducible repeat (first | refine blk_drewN ?_ _ | refine blk_drew ?_ | refine blk_alloc ?_ _)); exact BK332.out) k_ hk⟩)); (case aO => exact (by (with_reducible repeat (first | apply Kd.S_alloc | apply Kd.S_drewN | apply Kd.S_drew)); exact Kd.S_mono HO_8.out (fun k_ hk => ⟨⟨hk.1, hk.2.2⟩, fun e_ => hk.2.1 e_⟩))); (case aS => exact (below_size (by repeat (first | (with_reducible first | exact HB.out | apply below_alloc | apply pw_below_drewN | apply below_drew1 | refine below_set ?_ GE332.out) | exact HB.out)))); (case aL => have := LMc15.out; omega); intro v334 w26 ho hb hg hat; rw [← Ny333.out] at ho; have n0_ := Aside0.mk (Kd.R_over' (by (with_reducible repeat (first | apply Kd.R_alloc | apply Kd.R_drewN | apply Kd.R_drew)); exact HO_21.out) (Kd.S_typed (by (with_reducible repeat (first | apply Kd.S_alloc | apply Kd.S_drewN | apply Kd.S_drew)); exact HO_8.out)) (by decide) hg); have n1_ := Aside0.mk (blk_grown (g := gb332) (o := .cells #[.int .i64 t325, .slice Ao19 t326.length co19, .int .i64 a1, .int .i64 a1, .int .i64 t331] 41 (0, 0)) (by (with_reducible repeat (first | refine blk_drewN ?_ _ | refine blk_drew ?_ | refine blk_alloc ?_ _)); exact BK332.out) hg (Kd.S_away HO_8.out (fun _ hk => hk.2.2))); have n2_ := Aside0.mk (hb); have n3_ := Aside0.mk (ho); clear HO_21; clear BK332; clear HB; clear HO_8; clear HO328; have HO_21 := n0_; have BK332 := n1_; have HB := n2_; have HO335 := n3_; clear n0_ n1_ n2_ n3_; clear ho hb hg hat))
                    go_roundg k1
                    case measure => have := HK1.out; omega
                    case rel => exact ⟨(y333), (wrap64 (x23_1 + 1)), (by first | rfl | (simp; done) | (simp [*]; done)), H', ⟨by have := HK1.out; omega⟩, ⟨by (with_reducible repeat (first | apply Kd.S_alloc | apply Kd.S_drewN | apply Kd.S_drew)); exact Kd.S_mono HO335.out (fun _ hk => hk.1)⟩, ⟨by (with_reducible repeat (first | apply Kd.R_alloc | apply Kd.R_drewN | apply Kd.R_drew)); exact Kd.R_mono HO_21.out (fun _ hk => trivial)⟩, ⟨by repeat (first | (with_reducible first | exact HB.out | apply below_alloc | apply pw_below_drewN | apply below_drew1 | refine below_set ?_ GE332.out) | exact HB.out)⟩⟩
                  · rw [if_neg c15] at H
                    exact absurd H (by simp)
                · rw [if_neg c13] at H
                  exact absurd H (by simp)
              · rw [if_neg c12] at H
                exact absurd H (by simp)
            · rw [if_neg c11] at H
              exact absurd H (by simp)
          · rw [if_neg c10] at H
            exact absurd H (by simp)
        · rw [if_neg c9] at H
          have c9b0 : decide (x23_1 < (t316.length : Int)) = false := decide_eq_false c9
          clear c9
          simp only [Option.some.injEq, Prod.mk.injEq] at H
          obtain ⟨rfl, rfl⟩ := H
          go_wp2
          go_ret2
          exact ⟨_, by first | rfl | (simp [errW_none, errW_some] <;> rfl) | (simp [*, errW_none, errW_some] <;> rfl), by (with_reducible repeat (first | apply Kd.S_alloc | apply Kd.S_drewN | apply Kd.S_drew)); exact Kd.S_mono HO_8.out (fun _ hk => trivial), by repeat (first | (with_reducible first | exact HB.out | apply below_alloc | apply pw_below_drewN | apply below_drew1) | exact HB.out)⟩
  · replace c4 := Bool.eq_false_iff.mpr c4
    subst c4
    have H1 : (some (([] : List (S41)), false)) = some (r1, r2) := by rw [if_neg (show ¬ (false = true) by decide)] at H; exact H
    clear H
    have H := H1
    clear H1
    simp only [Option.some.injEq, Prod.mk.injEq] at H
    obtain ⟨rfl, rfl⟩ := H
    go_enter Tryz.func16, Tryz.ntmps16
    go_wp2_with (first | ((with_reducible refine gate_callee (f := 44) rfl ?_); refine goesL_ (some 15) rfl rfl Tryz.func44 (by kernel_rfl) rfl #[.slice A0 l0.length c0, .int .i64 a1] rfl (by (try simp only [List.map_toArray, List.map_cons, List.map_nil]); first | done | rfl | (simp only [List.length_drop, List.length_take]; rfl)) ?_; (with_reducible refine (impl_ActiveRules.calls k _ _ l0 a1 t316 false _ ?side1 ?side2 A3.out).mono ?_); (case side1 => repeat (first | exact HR0.out | (with_reducible refine Kd.C_alloc ?_ _) | (with_reducible refine Kd.C_drewN ?_ _) | (with_reducible refine Kd.C_drew ?_))); (case side2 => exact HC0.out); rintro e w27 ⟨v318, rfl, ho0, hb⟩; refine ⟨_, rfl, ?_⟩; have n0_ := Aside0.mk (Kd.R_lower ho0 (below_size (by repeat (first | (with_reducible first | exact HB.out | apply below_alloc | apply pw_below_drewN | apply below_drew1) | exact HB.out)))); have n1_ := Aside0.mk (below_step (by repeat (first | (with_reducible first | exact HB.out | apply below_alloc | apply pw_below_drewN | apply below_drew1) | exact HB.out)) hb); clear HB; have HO319 := n0_; have HB := n1_; clear n0_ n1_; (try clear hb); (try clear hb2); (try clear hk); (try clear hi); (try clear ho0)))
    go_ret2
    exact ⟨_, by first | rfl | (simp [errW_none, errW_some] <;> rfl) | (simp [*, errW_none, errW_some] <;> rfl), by first | exact Kd.S_nil _ _ _ _ _ | exact Kd.N_nil _ _ _ _ _ | exact Kd.V_nil _ _ _ _ _ | exact Kd.Q_nil _ _ _ _ _ | exact Kd.R_nil _ _ _ _ _, by repeat (first | (with_reducible first | exact HB.out | apply below_alloc | apply pw_below_drewN | apply below_drew1) | exact HB.out)⟩
/-! ### spec_l05Ends: function 46 -/
def spec_l05Ends.f (l0 : List (S41)) (a1 : Int) (a2 : Int) : Option (Bool) := (spec_l05Rules.f l0).bind fun t336 => (if t336 = true then ((spec_l05Day.f a2).bind fun t337 => (if t337 = true then ((spec_l00In.f a1 0 (wrap64 ((l0.length : Int) - 1))).bind fun t338 => (if t338 = true then (if 0 ≤ a1 then (if a1 < (l0.length : Int) then (if a2 > ((rd_T41 l0 a1).f2) then (some (decide (a2 ≤ ((rd_T41 l0 a1).f3)))) else (some false)) else (none)) else (none)) else (some false))) else (some false))) else (some false))
set_option maxHeartbeats 8000000 in
set_option maxRecDepth 100000 in
theorem spec_l05Ends.calls (A0 : Option Addr) (c0 : Nat) (l0 : List (S41)) (a1 : Int) (a2 : Int) (r : Bool) (w : World) (hr0 : Kd.C k41 w A0 l0.length l0) (hc0 : l0.length ≤ c0) (h : spec_l05Ends.f l0 a1 a2 = some r) :
    Calls Tryz.prog 46 #[.slice A0 l0.length c0, .int .i64 a1, .int .i64 a2] w fun e w' => e = .returned (.bool r) ∧ Drawn0 w w' := by
  have HR0 := Aside0.mk hr0
  have HC0 := Aside0.mk hc0
  clear hr0 hc0
  have H : ((spec_l05Rules.f l0).bind fun t336 => (if t336 = true then ((spec_l05Day.f a2).bind fun t337 => (if t337 = true then ((spec_l00In.f a1 0 (wrap64 ((l0.length : Int) - 1))).bind fun t338 => (if t338 = true then (if 0 ≤ a1 then (if a1 < (l0.length : Int) then (if a2 > ((rd_T41 l0 a1).f2) then (some (decide (a2 ≤ ((rd_T41 l0 a1).f3)))) else (some false)) else (none)) else (none)) else (some false))) else (some false))) else (some false))) = some r := h
  clear h
  replace H := Option.bind_eq_some_iff.mp H
  obtain ⟨t336, A40, H⟩ := H
  replace H : (if t336 = true then ((spec_l05Day.f a2).bind fun t337 => (if t337 = true then ((spec_l00In.f a1 0 (wrap64 ((l0.length : Int) - 1))).bind fun t338 => (if t338 = true then (if 0 ≤ a1 then (if a1 < (l0.length : Int) then (if a2 > ((rd_T41 l0 a1).f2) then (some (decide (a2 ≤ ((rd_T41 l0 a1).f3)))) else (some false)) else (none)) else (none)) else (some false))) else (some false))) else (some false)) = some r := H
  have A4 := Aside0.mk A40
  clear A40
  by_cases c5 : t336 = true
  · subst c5
    have H1 : ((spec_l05Day.f a2).bind fun t337 => (if t337 = true then ((spec_l00In.f a1 0 (wrap64 ((l0.length : Int) - 1))).bind fun t338 => (if t338 = true then (if 0 ≤ a1 then (if a1 < (l0.length : Int) then (if a2 > ((rd_T41 l0 a1).f2) then (some (decide (a2 ≤ ((rd_T41 l0 a1).f3)))) else (some false)) else (none)) else (none)) else (some false))) else (some false))) = some r := by rw [if_pos rfl] at H; exact H
    clear H
    have H := H1
    clear H1
    replace H := Option.bind_eq_some_iff.mp H
    obtain ⟨t337, A60, H⟩ := H
    replace H : (if t337 = true then ((spec_l00In.f a1 0 (wrap64 ((l0.length : Int) - 1))).bind fun t338 => (if t338 = true then (if 0 ≤ a1 then (if a1 < (l0.length : Int) then (if a2 > ((rd_T41 l0 a1).f2) then (some (decide (a2 ≤ ((rd_T41 l0 a1).f3)))) else (some false)) else (none)) else (none)) else (some false))) else (some false)) = some r := H
    have A6 := Aside0.mk A60
    clear A60
    by_cases c7 : t337 = true
    · subst c7
      have H1 : ((spec_l00In.f a1 0 (wrap64 ((l0.length : Int) - 1))).bind fun t338 => (if t338 = true then (if 0 ≤ a1 then (if a1 < (l0.length : Int) then (if a2 > ((rd_T41 l0 a1).f2) then (some (decide (a2 ≤ ((rd_T41 l0 a1).f3)))) else (some false)) else (none)) else (none)) else (some false))) = some r := by rw [if_pos rfl] at H; exact H
      clear H
      have H := H1
      clear H1
      replace H := Option.bind_eq_some_iff.mp H
      obtain ⟨t338, A80, H⟩ := H
      replace H : (if t338 = true then (if 0 ≤ a1 then (if a1 < (l0.length : Int) then (if a2 > ((rd_T41 l0 a1).f2) then (some (decide (a2 ≤ ((rd_T41 l0 a1).f3)))) else (some false)) else (none)) else (none)) else (some false)) = some r := H
      have A8 := Aside0.mk A80
      clear A80
      by_cases c9 : t338 = true
      · subst c9
        have H1 : (if 0 ≤ a1 then (if a1 < (l0.length : Int) then (if a2 > ((rd_T41 l0 a1).f2) then (some (decide (a2 ≤ ((rd_T41 l0 a1).f3)))) else (some false)) else (none)) else (none)) = some r := by rw [if_pos rfl] at H; exact H
        clear H
        have H := H1
        clear H1
        by_cases c10 : 0 ≤ a1
        · rw [if_pos c10] at H
          have c10b0 : decide (0 ≤ a1) = true := decide_eq_true c10
          clear c10
          by_cases c11 : a1 < (l0.length : Int)
          · rw [if_pos c11] at H
            have c11b0 : decide (a1 < (l0.length : Int)) = true := decide_eq_true c11
            clear c11
            by_cases c12 : a2 > ((rd_T41 l0 a1).f2)
            · rw [if_pos c12] at H
              have c12b0 : decide (((rd_T41 l0 a1).f2) < a2) = true := decide_eq_true c12
              clear c12
              obtain rfl := Option.some.inj H
              go_enter Tryz.func46, Tryz.ntmps46
              go_wp2_with (first | ((with_reducible refine gate_callee (f := 31) rfl ?_); refine goesL_ (some 8) rfl rfl Tryz.func31 (by kernel_rfl) rfl #[.slice A0 l0.length c0] rfl (by (try simp only [List.map_toArray, List.map_cons, List.map_nil]); first | done | rfl | (simp only [List.length_drop, List.length_take]; rfl)) ?_; (with_reducible refine (spec_l05Rules.calls _ _ l0 true _ ?side1 ?side2 A4.out).mono ?_); (case side1 => repeat (first | exact HR0.out | (with_reducible refine Kd.C_alloc ?_ _) | (with_reducible refine Kd.C_drewN ?_ _) | (with_reducible refine Kd.C_drew ?_))); (case side2 => exact HC0.out); rintro e w' ⟨rfl, ⟨nd, rfl⟩⟩; refine ⟨_, rfl, ?_⟩) | (go_at_call 38; (with_reducible refine (spec_l05Day.calls a2 true _ A6.out).mono ?_); rintro e w' ⟨rfl, ⟨nd, rfl⟩⟩) | (go_at_call 80; (with_reducible refine (spec_l00In.calls a1 0 (wrap64 ((l0.length : Int) - 1)) true _ A8.out).mono ?_); rintro e w' ⟨rfl, ⟨nd, rfl⟩⟩; have p339 : 0 ≤ (a1 : Int) := of_decide_eq_true (by first | (with_reducible assumption) | assumption); have q339 : a1 < (l0.length : Int) := of_decide_eq_true (by first | (with_reducible assumption) | assumption); obtain ⟨ad339, A339_1, c339_1, e339, hx339_0, hx339_1, hx339_2, hx339_3, hx339_4, hl339_1, hi339_1⟩ := at_T41 HR0.out a1 p339 q339; cases e339; have HR339_1 := Aside0.mk hi339_1; have HC339_1 := Aside0.mk hl339_1; clear hi339_1 hl339_1; replace p339 := eq_true p339; replace q339 := eq_true q339; have p340 : 0 ≤ (a1 : Int) := of_decide_eq_true (by first | (with_reducible assumption) | assumption); have q340 : a1 < (l0.length : Int) := of_decide_eq_true (by first | (with_reducible assumption) | assumption); obtain ⟨ad340, A340_1, c340_1, e340, hx340_0, hx340_1, hx340_2, hx340_3, hx340_4, hl340_1, hi340_1⟩ := at_T41 HR0.out a1 p340 q340; obtain rfl : ad339 = ad340 := (by injection e340); have HR340_1 := Aside0.mk hi340_1; have HC340_1 := Aside0.mk hl340_1; clear hi340_1 hl340_1; replace p340 := eq_true p340; replace q340 := eq_true q340; have ea_ := Option.some.inj (hx339_1.symm.trans hx340_1); injection ea_ with ea_ en_ ec_; subst ea_; subst ec_; clear en_))
              go_ret
              exact ⟨by first | rfl | (simp; done) | (simp [*]; done), by repeat (first | exact Drawn0.refl _ | apply Drawn0.step)⟩
            · rw [if_neg c12] at H
              have c12b0 : decide (((rd_T41 l0 a1).f2) < a2) = false := decide_eq_false c12
              clear c12
              obtain rfl := Option.some.inj H
              go_enter Tryz.func46, Tryz.ntmps46
              go_wp2_with (first | ((with_reducible refine gate_callee (f := 31) rfl ?_); refine goesL_ (some 8) rfl rfl Tryz.func31 (by kernel_rfl) rfl #[.slice A0 l0.length c0] rfl (by (try simp only [List.map_toArray, List.map_cons, List.map_nil]); first | done | rfl | (simp only [List.length_drop, List.length_take]; rfl)) ?_; (with_reducible refine (spec_l05Rules.calls _ _ l0 true _ ?side1 ?side2 A4.out).mono ?_); (case side1 => repeat (first | exact HR0.out | (with_reducible refine Kd.C_alloc ?_ _) | (with_reducible refine Kd.C_drewN ?_ _) | (with_reducible refine Kd.C_drew ?_))); (case side2 => exact HC0.out); rintro e w' ⟨rfl, ⟨nd, rfl⟩⟩; refine ⟨_, rfl, ?_⟩) | (go_at_call 38; (with_reducible refine (spec_l05Day.calls a2 true _ A6.out).mono ?_); rintro e w' ⟨rfl, ⟨nd, rfl⟩⟩) | (go_at_call 80; (with_reducible refine (spec_l00In.calls a1 0 (wrap64 ((l0.length : Int) - 1)) true _ A8.out).mono ?_); rintro e w' ⟨rfl, ⟨nd, rfl⟩⟩; have p339 : 0 ≤ (a1 : Int) := of_decide_eq_true (by first | (with_reducible assumption) | assumption); have q339 : a1 < (l0.length : Int) := of_decide_eq_true (by first | (with_reducible assumption) | assumption); obtain ⟨ad339, A339_1, c339_1, e339, hx339_0, hx339_1, hx339_2, hx339_3, hx339_4, hl339_1, hi339_1⟩ := at_T41 HR0.out a1 p339 q339; cases e339; have HR339_1 := Aside0.mk hi339_1; have HC339_1 := Aside0.mk hl339_1; clear hi339_1 hl339_1; replace p339 := eq_true p339; replace q339 := eq_true q339))
              go_ret
              exact ⟨by first | rfl | (simp; done) | (simp [*]; done), by repeat (first | exact Drawn0.refl _ | apply Drawn0.step)⟩
          · rw [if_neg c11] at H
            exact absurd H (by simp)
        · rw [if_neg c10] at H
          exact absurd H (by simp)
      · replace c9 := Bool.eq_false_iff.mpr c9
        subst c9
        have H1 : (some false) = some r := by rw [if_neg (show ¬ (false = true) by decide)] at H; exact H
        clear H
        have H := H1
        clear H1
        obtain rfl := Option.some.inj H
        go_enter Tryz.func46, Tryz.ntmps46
        go_wp2_with (first | ((with_reducible refine gate_callee (f := 31) rfl ?_); refine goesL_ (some 8) rfl rfl Tryz.func31 (by kernel_rfl) rfl #[.slice A0 l0.length c0] rfl (by (try simp only [List.map_toArray, List.map_cons, List.map_nil]); first | done | rfl | (simp only [List.length_drop, List.length_take]; rfl)) ?_; (with_reducible refine (spec_l05Rules.calls _ _ l0 true _ ?side1 ?side2 A4.out).mono ?_); (case side1 => repeat (first | exact HR0.out | (with_reducible refine Kd.C_alloc ?_ _) | (with_reducible refine Kd.C_drewN ?_ _) | (with_reducible refine Kd.C_drew ?_))); (case side2 => exact HC0.out); rintro e w' ⟨rfl, ⟨nd, rfl⟩⟩; refine ⟨_, rfl, ?_⟩) | (go_at_call 38; (with_reducible refine (spec_l05Day.calls a2 true _ A6.out).mono ?_); rintro e w' ⟨rfl, ⟨nd, rfl⟩⟩) | (go_at_call 80; (with_reducible refine (spec_l00In.calls a1 0 (wrap64 ((l0.length : Int) - 1)) false _ A8.out).mono ?_); rintro e w' ⟨rfl, ⟨nd, rfl⟩⟩))
        go_ret
        exact ⟨by first | rfl | (simp; done) | (simp [*]; done), by repeat (first | exact Drawn0.refl _ | apply Drawn0.step)⟩
    · replace c7 := Bool.eq_false_iff.mpr c7
      subst c7
      have H1 : (some false) = some r := by rw [if_neg (show ¬ (false = true) by decide)] at H; exact H
      clear H
      have H := H1
      clear H1
      obtain rfl := Option.some.inj H
      go_enter Tryz.func46, Tryz.ntmps46
      go_wp2_with (first | ((with_reducible refine gate_callee (f := 31) rfl ?_); refine goesL_ (some 8) rfl rfl Tryz.func31 (by kernel_rfl) rfl #[.slice A0 l0.length c0] rfl (by (try simp only [List.map_toArray, List.map_cons, List.map_nil]); first | done | rfl | (simp only [List.length_drop, List.length_take]; rfl)) ?_; (with_reducible refine (spec_l05Rules.calls _ _ l0 true _ ?side1 ?side2 A4.out).mono ?_); (case side1 => repeat (first | exact HR0.out | (with_reducible refine Kd.C_alloc ?_ _) | (with_reducible refine Kd.C_drewN ?_ _) | (with_reducible refine Kd.C_drew ?_))); (case side2 => exact HC0.out); rintro e w' ⟨rfl, ⟨nd, rfl⟩⟩; refine ⟨_, rfl, ?_⟩) | (go_at_call 38; (with_reducible refine (spec_l05Day.calls a2 false _ A6.out).mono ?_); rintro e w' ⟨rfl, ⟨nd, rfl⟩⟩))
      go_ret
      exact ⟨by first | rfl | (simp; done) | (simp [*]; done), by repeat (first | exact Drawn0.refl _ | apply Drawn0.step)⟩
  · replace c5 := Bool.eq_false_iff.mpr c5
    subst c5
    have H1 : (some false) = some r := by rw [if_neg (show ¬ (false = true) by decide)] at H; exact H
    clear H
    have H := H1
    clear H1
    obtain rfl := Option.some.inj H
    go_enter Tryz.func46, Tryz.ntmps46
    go_wp2_with (first | ((with_reducible refine gate_callee (f := 31) rfl ?_); refine goesL_ (some 8) rfl rfl Tryz.func31 (by kernel_rfl) rfl #[.slice A0 l0.length c0] rfl (by (try simp only [List.map_toArray, List.map_cons, List.map_nil]); first | done | rfl | (simp only [List.length_drop, List.length_take]; rfl)) ?_; (with_reducible refine (spec_l05Rules.calls _ _ l0 false _ ?side1 ?side2 A4.out).mono ?_); (case side1 => repeat (first | exact HR0.out | (with_reducible refine Kd.C_alloc ?_ _) | (with_reducible refine Kd.C_drewN ?_ _) | (with_reducible refine Kd.C_drew ?_))); (case side2 => exact HC0.out); rintro e w' ⟨rfl, ⟨nd, rfl⟩⟩; refine ⟨_, rfl, ?_⟩))
    go_ret
    exact ⟨by first | rfl | (simp; done) | (simp [*]; done), by repeat (first | exact Drawn0.refl _ | apply Drawn0.step)⟩
end Go.Proofs.YtoippneeagaceaaGreat.PR

namespace Go.Proofs.YtoippneeagaceaaGreat.PR
open Go.RowKit Go.Proofs.YtoippneeagaceaaGreatW.PrintWords Go.Proofs.YtoippneeagaceaaGreatW.PrintLast Go.Proofs.YtoippneeagaceaaGreatW.PrintMore
attribute [local go_sem] max2_int min2_int max_two min_two max_three min_three max_four min_four   -- for this text's walks alone
set_option linter.unusedVariables false
set_option linter.unusedSimpArgs false
/-! ### spec_AmendRule: function 17 -/
def spec_AmendRule.f (k : Nat) (l0 : List (S41)) (a1 : Int) (a2 : Int) (a3_0 : Int) (l3_1 : List Int) (a3_2 : Int) (a3_3 : Int) (a3_4 : Int) : Option ((List (S41)) × Bool) := (spec_l05Ends.f l0 a1 a2).bind fun t342 => (if t342 = true then ((spec_l05OwnRules.f k l0).bind fun t343 => (if 0 ≤ a1 then (if a1 < (t343.length : Int) then ((some (t343.set (a1 : Int).toNat (⟨(rd_T41 t343 a1).f0, (rd_T41 t343 a1).f1, (rd_T41 t343 a1).f2, wrap64 (a2 - 1), (rd_T41 t343 a1).f4⟩ : S41) : List (S41))).bind fun y346 => ((some (([] : List Int) : List Int)).bind fun y347 => (if y347.length + l3_1.length < 17592186044416 then (if y346.length < 2513169434916 then ((some (y346 ++ [(⟨a3_0, (y347 ++ l3_1), a2, a3_3, a3_4⟩ : S41)] : List (S41))).bind fun y353 => ((spec_l05Rules.f y353).bind fun t356 => (if t356 = true then (some (y353, true)) else (some (([] : List (S41)), false))))) else (none)) else (none)))) else (none)) else (none))) else (some (([] : List (S41)), false)))
theorem spec_AmendRule.mono : ∀ a0 a1 a2 a3 a4 a5 a6 a7 k, LeO (spec_AmendRule.f k a0 a1 a2 a3 a4 a5 a6 a7) (spec_AmendRule.f (k + 1) a0 a1 a2 a3 a4 a5 a6 a7) := by
  intro a0 a1 a2 a3 a4 a5 a6 a7 k
  unfold spec_AmendRule.f
  repeat' first
      | (with_reducible exact spec_l05OwnRules.mono _ _)
      | (with_reducible exact LeO.refl _)
      | (with_reducible exact LeO.none _)
      | (with_reducible refine LeO.ite ?_ ?_)
      | (with_reducible refine LeO.bind ?_ (fun _ => ?_))
      | exact spec_l05OwnRules.mono _ _
      | exact LeO.none _
      | refine LeO.ite ?_ ?_
      | refine LeO.bind ?_ (fun _ => ?_)
set_option maxHeartbeats 8000000 in
set_option maxRecDepth 100000 in
theorem spec_AmendRule.calls (k : Nat) (A0 : Option Addr) (c0 : Nat) (l0 : List (S41)) (a1 : Int) (a2 : Int) (a3_0 : Int) (A3_1 : Option Addr) (c3_1 : Nat) (l3_1 : List Int) (a3_2 : Int) (a3_3 : Int) (a3_4 : Int) (r1 : List (S41)) (r2 : Bool) (w : World) (hr0 : Kd.C k41 w A0 l0.length l0) (hc0 : l0.length ≤ c0) (hr3_1 : Kd.C (Kd.int .i64) w A3_1 l3_1.length l3_1) (hc3_1 : l3_1.length ≤ c3_1) (h : spec_AmendRule.f k l0 a1 a2 a3_0 l3_1 a3_2 a3_3 a3_4 = some (r1, r2)) :
    Calls Tryz.prog 17 #[.slice A0 l0.length c0, .int .i64 a1, .int .i64 a2, .agg #[.int .i64 a3_0, .slice A3_1 l3_1.length c3_1, .int .i64 a3_2, .int .i64 a3_3, .int .i64 a3_4]] w fun e w' => ∃ v0_ : Value, e = .returned (.tuple #[v0_, .bool r2]) ∧ Kd.S k41 41 w' w.heap.size (fun _ => True) v0_ r1 ∧ Below w.heap.size w w' := by
  have hu41 := Tryz.underlying41
  have HR0 := Aside0.mk hr0
  have HC0 := Aside0.mk hc0
  clear hr0 hc0
  have HR3_1 := Aside0.mk hr3_1
  have HC3_1 := Aside0.mk hc3_1
  clear hr3_1 hc3_1
  have HB := Aside0.mk (Below.refl w.heap.size w)
  have H : ((spec_l05Ends.f l0 a1 a2).bind fun t342 => (if t342 = true then ((spec_l05OwnRules.f k l0).bind fun t343 => (if 0 ≤ a1 then (if a1 < (t343.length : Int) then ((some (t343.set (a1 : Int).toNat (⟨(rd_T41 t343 a1).f0, (rd_T41 t343 a1).f1, (rd_T41 t343 a1).f2, wrap64 (a2 - 1), (rd_T41 t343 a1).f4⟩ : S41) : List (S41))).bind fun y346 => ((some (([] : List Int) : List Int)).bind fun y347 => (if y347.length + l3_1.length < 17592186044416 then (if y346.length < 2513169434916 then ((some (y346 ++ [(⟨a3_0, (y347 ++ l3_1), a2, a3_3, a3_4⟩ : S41)] : List (S41))).bind fun y353 => ((spec_l05Rules.f y353).bind fun t356 => (if t356 = true then (some (y353, true)) else (some (([] : List (S41)), false))))) else (none)) else (none)))) else (none)) else (none))) else (some (([] : List (S41)), false)))) = some (r1, r2) := h
  clear h
  replace H := Option.bind_eq_some_iff.mp H
  obtain ⟨t342, A50, H⟩ := H
  replace H : (if t342 = true then ((spec_l05OwnRules.f k l0).bind fun t343 => (if 0 ≤ a1 then (if a1 < (t343.length : Int) then ((some (t343.set (a1 : Int).toNat (⟨(rd_T41 t343 a1).f0, (rd_T41 t343 a1).f1, (rd_T41 t343 a1).f2, wrap64 (a2 - 1), (rd_T41 t343 a1).f4⟩ : S41) : List (S41))).bind fun y346 => ((some (([] : List Int) : List Int)).bind fun y347 => (if y347.length + l3_1.length < 17592186044416 then (if y346.length < 2513169434916 then ((some (y346 ++ [(⟨a3_0, (y347 ++ l3_1), a2, a3_3, a3_4⟩ : S41)] : List (S41))).bind fun y353 => ((spec_l05Rules.f y353).bind fun t356 => (if t356 = true then (some (y353, true)) else (some (([] : List (S41)), false))))) else (none)) else (none)))) else (none)) else (none))) else (some (([] : List (S41)), false))) = some (r1, r2) := H
  have A5 := Aside0.mk A50
  clear A50
  by_cases c6 : t342 = true
  · subst c6
    have H1 : ((spec_l05OwnRules.f k l0).bind fun t343 => (if 0 ≤ a1 then (if a1 < (t343.length : Int) then ((some (t343.set (a1 : Int).toNat (⟨(rd_T41 t343 a1).f0, (rd_T41 t343 a1).f1, (rd_T41 t343 a1).f2, wrap64 (a2 - 1), (rd_T41 t343 a1).f4⟩ : S41) : List (S41))).bind fun y346 => ((some (([] : List Int) : List Int)).bind fun y347 => (if y347.length + l3_1.length < 17592186044416 then (if y346.length < 2513169434916 then ((some (y346 ++ [(⟨a3_0, (y347 ++ l3_1), a2, a3_3, a3_4⟩ : S41)] : List (S41))).bind fun y353 => ((spec_l05Rules.f y353).bind fun t356 => (if t356 = true then (some (y353, true)) else (some (([] : List (S41)), false))))) else (none)) else (none)))) else (none)) else (none))) = some (r1, r2) := by rw [if_pos rfl] at H; exact H
    clear H
    have H := H1
    clear H1
    replace H := Option.bind_eq_some_iff.mp H
    obtain ⟨t343, A70, H⟩ := H
    replace H : (if 0 ≤ a1 then (if a1 < (t343.length : Int) then ((some (t343.set (a1 : Int).toNat (⟨(rd_T41 t343 a1).f0, (rd_T41 t343 a1).f1, (rd_T41 t343 a1).f2, wrap64 (a2 - 1), (rd_T41 t343 a1).f4⟩ : S41) : List (S41))).bind fun y346 => ((some (([] : List Int) : List Int)).bind fun y347 => (if y347.length + l3_1.length < 17592186044416 then (if y346.length < 2513169434916 then ((some (y346 ++ [(⟨a3_0, (y347 ++ l3_1), a2, a3_3, a3_4⟩ : S41)] : List (S41))).bind fun y353 => ((spec_l05Rules.f y353).bind fun t356 => (if t356 = true then (some (y353, true)) else (some (([] : List (S41)), false))))) else (none)) else (none)))) else (none)) else (none)) = some (r1, r2) := H
    have A7 := Aside0.mk A70
    clear A70
    by_cases c8 : 0 ≤ a1
    · rw [if_pos c8] at H
      have c8b0 : decide (0 ≤ a1) = true := decide_eq_true c8
      clear c8
      by_cases c9 : a1 < (t343.length : Int)
      · rw [if_pos c9] at H
        have c9b0 : decide (a1 < (t343.length : Int)) = true := decide_eq_true c9
        clear c9
        obtain ⟨y346, hy346⟩ : ∃ y_ : List (S41), y_ = (t343.set (a1 : Int).toNat (⟨(rd_T41 t343 a1).f0, (rd_T41 t343 a1).f1, (rd_T41 t343 a1).f2, wrap64 (a2 - 1), (rd_T41 t343 a1).f4⟩ : S41)) := ⟨_, rfl⟩
        replace H : ((some (([] : List Int) : List Int)).bind fun y347 => (if y347.length + l3_1.length < 17592186044416 then (if y346.length < 2513169434916 then ((some (y346 ++ [(⟨a3_0, (y347 ++ l3_1), a2, a3_3, a3_4⟩ : S41)] : List (S41))).bind fun y353 => ((spec_l05Rules.f y353).bind fun t356 => (if t356 = true then (some (y353, true)) else (some (([] : List (S41)), false))))) else (none)) else (none))) = some (r1, r2) := by first | (rw [hy346]; with_reducible exact H) | (have H2_ := (Option.bind_some _ _).symm.trans H; rw [hy346]; with_reducible exact H2_) | (have H2_ := (Option.bind_some _ _).symm.trans H; with_reducible exact H2_) | with_reducible exact H | (rw [hy346]; exact H) | exact H
        have Ny346 := Aside0.mk hy346
        clear hy346
        obtain ⟨y347, hy347⟩ : ∃ y_ : List Int, y_ = (([] : List Int)) := ⟨_, rfl⟩
        replace H : (if y347.length + l3_1.length < 17592186044416 then (if y346.length < 2513169434916 then ((some (y346 ++ [(⟨a3_0, (y347 ++ l3_1), a2, a3_3, a3_4⟩ : S41)] : List (S41))).bind fun y353 => ((spec_l05Rules.f y353).bind fun t356 => (if t356 = true then (some (y353, true)) else (some (([] : List (S41)), false))))) else (none)) else (none)) = some (r1, r2) := by first | (rw [hy347]; with_reducible exact H) | (have H2_ := (Option.bind_some _ _).symm.trans H; rw [hy347]; with_reducible exact H2_) | (have H2_ := (Option.bind_some _ _).symm.trans H; with_reducible exact H2_) | with_reducible exact H | (rw [hy347]; exact H) | exact H
        have Ny347 := Aside0.mk hy347
        clear hy347
        by_cases c11 : y347.length + l3_1.length < 17592186044416
        · rw [if_pos c11] at H
          have LMc11 := Aside0.mk c11
          clear c11
          obtain ⟨y350, hy350⟩ : ∃ y_ : List Int, y_ = (y347 ++ l3_1) := ⟨_, rfl⟩
          replace H : (if y346.length < 2513169434916 then ((some (y346 ++ [(⟨a3_0, y350, a2, a3_3, a3_4⟩ : S41)] : List (S41))).bind fun y353 => ((spec_l05Rules.f y353).bind fun t356 => (if t356 = true then (some (y353, true)) else (some (([] : List (S41)), false))))) else (none)) = some (r1, r2) := by first | (rw [hy350]; with_reducible exact H) | (have H2_ := (Option.bind_some _ _).symm.trans H; rw [hy350]; with_reducible exact H2_) | (have H2_ := (Option.bind_some _ _).symm.trans H; with_reducible exact H2_) | with_reducible exact H | (rw [hy350]; exact H) | exact H
          have Ny350 := Aside0.mk hy350
          clear hy350
          by_cases c12 : y346.length < 2513169434916
          · rw [if_pos c12] at H
            have LMc12 := Aside0.mk c12
            clear c12
            obtain ⟨y353, hy353⟩ : ∃ y_ : List (S41), y_ = (y346 ++ [(⟨a3_0, y350, a2, a3_3, a3_4⟩ : S41)]) := ⟨_, rfl⟩
            replace H : ((spec_l05Rules.f y353).bind fun t356 => (if t356 = true then (some (y353, true)) else (some (([] : List (S41)), false)))) = some (r1, r2) := by first | (rw [hy353]; with_reducible exact H) | (have H2_ := (Option.bind_some _ _).symm.trans H; rw [hy353]; with_reducible exact H2_) | (have H2_ := (Option.bind_some _ _).symm.trans H; with_reducible exact H2_) | with_reducible exact H | (rw [hy353]; exact H) | exact H
            have Ny353 := Aside0.mk hy353
            clear hy353
            replace H := Option.bind_eq_some_iff.mp H
            obtain ⟨t356, A130, H⟩ := H
            replace H : (if t356 = true then (some (y353, true)) else (some (([] : List (S41)), false))) = some (r1, r2) := H
            have A13 := Aside0.mk A130
            clear A130
            by_cases c14 : t356 = true
            · subst c14
              have H1 : (some (y353, true)) = some (r1, r2) := by rw [if_pos rfl] at H; exact H
              clear H
              have H := H1
              clear H1
              simp only [Option.some.injEq, Prod.mk.injEq] at H
              obtain ⟨rfl, rfl⟩ := H
              go_enter Tryz.func17, Tryz.ntmps17
              go_wp2_with (first | ((with_reducible refine gate_dst (N := 7) rfl ?_); refine box_event ?hg (N := 7) ?hd (cs := #[.int .i64 a3_0, .slice A3_1 l3_1.length c3_1, .int .i64 a3_2, .int .i64 a3_3, .int .i64 a3_4]) (t := 41) ?hr ?_; (case hd => rfl); (case hg => rfl); (case hr => first | (go_simp; done) | (go_simp; rfl)); intro gb341 hg w15 hbox hb; have n0_ := Aside0.mk (below_step (by repeat (first | (with_reducible first | exact HB.out | apply below_alloc | apply pw_below_drewN | apply below_drew1) | exact HB.out)) hb); have n1_ := Aside0.mk (hbox); have n2_ := Aside0.mk ((by rw [hg]; exact (below_size (by repeat (first | (with_reducible first | exact HB.out | apply below_alloc | apply pw_below_drewN | apply below_drew1) | exact HB.out))) : w.heap.size ≤ gb341)); have n3_ := Aside0.mk ((by rw [hg]; exact (below_size (by repeat (first | (with_reducible first | exact HB.out | apply below_alloc | apply pw_below_drewN | apply below_drew1) | exact HB.out))) : w.heap.size ≤ gb341)); clear HB; have HB := n0_; have BK341 := n1_; have GW341 := n2_; have GE341 := n3_; clear n0_ n1_ n2_ n3_; clear hb hbox hg) | ((with_reducible refine gate_callee (f := 46) rfl ?_); refine goesL_ (some 14) rfl rfl Tryz.func46 (by kernel_rfl) rfl #[.slice A0 l0.length c0, .int .i64 a1, .int .i64 a2] rfl (by (try simp only [List.map_toArray, List.map_cons, List.map_nil]); first | done | rfl | (simp only [List.length_drop, List.length_take]; rfl)) ?_; (with_reducible refine (spec_l05Ends.calls _ _ l0 a1 a2 true _ ?side1 ?side2 A5.out).mono ?_); (case side1 => repeat (first | exact (Kd.C_below HR0.out HB.out) | (with_reducible refine Kd.C_alloc ?_ _) | (with_reducible refine Kd.C_drewN ?_ _) | (with_reducible refine Kd.C_drew ?_))); (case side2 => exact HC0.out); rintro e w' ⟨rfl, ⟨nd, rfl⟩⟩; refine ⟨_, rfl, ?_⟩; (try (rw [drewN_self w15]; generalize hq_ : World.drewN w15 _ = w15; have n0_ : Aside0 (w15.heap[gb341]? = some (.cells #[.int .i64 a3_0, .slice A3_1 l3_1.length c3_1, .int .i64 a3_2, .int .i64 a3_3, .int .i64 a3_4] 41 (0, 0))) := ⟨by rw [← hq_]; exact (by (with_reducible repeat (first | refine blk_drewN ?_ _ | refine blk_drew ?_ | refine blk_alloc ?_ _)); exact BK341.out)⟩; have n1_ : Aside0 (Below w.heap.size w w15) := ⟨by rw [← hq_]; exact (by repeat (first | (with_reducible first | exact HB.out | apply below_alloc | apply pw_below_drewN | apply below_drew1 | refine below_set ?_ GE341.out) | exact HB.out))⟩; clear BK341 HB hq_; have BK341 := n0_; have HB := n1_; clear n0_ n1_)); have hcz16_0 : w15.cell? ⟨gb341, 0, none⟩ = some (.int .i64 a3_0) := (blk_cell BK341.out 0).trans rfl; have hcz16_1 : w15.cell? ⟨gb341, 1, none⟩ = some (.slice A3_1 l3_1.length c3_1) := (blk_cell BK341.out 1).trans rfl; have hcz16_2 : w15.cell? ⟨gb341, 2, none⟩ = some (.int .i64 a3_2) := (blk_cell BK341.out 2).trans rfl; have hcz16_3 : w15.cell? ⟨gb341, 3, none⟩ = some (.int .i64 a3_3) := (blk_cell BK341.out 3).trans rfl; have hcz16_4 : w15.cell? ⟨gb341, 4, none⟩ = some (.int .i64 a3_4) := (blk_cell BK341.out 4).trans rfl; have hfz16_0 := blk_frozen BK341.out 0; have hfz16_1 := blk_frozen BK341.out 1; have hfz16_2 := blk_frozen BK341.out 2; have hfz16_3 := blk_frozen BK341.out 3; have hfz16_4 := blk_frozen BK341.out 4) | ((with_reducible refine gate_callee (f := 47) rfl ?_); refine goesL_ (some 19) rfl rfl Tryz.func47 (by kernel_rfl) rfl #[.slice A0 l0.length c0] rfl (by (try simp only [List.map_toArray, List.map_cons, List.map_nil]); first | done | rfl | (simp only [List.length_drop, List.length_take]; rfl)) ?_; (with_reducible refine (spec_l05OwnRules.calls k _ _ l0 t343 _ ?side1 ?side2 A7.out).mono ?_); (case side1 => exact Kd.C_below HR0.out (by repeat (first | (with_reducible first | exact HB.out | apply below_alloc | apply pw_below_drewN | apply below_drew1 | refine below_set ?_ GE341.out) | exact HB.out))); (case side2 => exact HC0.out); rintro e w17 ⟨v344, rfl, ho0, hb⟩; refine ⟨_, rfl, ?_⟩; have n0_ := Aside0.mk (Kd.S_lower (Kd.S_newB ho0 (g := gb341) (o := .cells #[.int .i64 a3_0, .slice A3_1 l3_1.length c3_1, .int .i64 a2, .int .i64 a3_3, .int .i64 a3_4] 41 (0, 0)) (by (with_reducible repeat (first | refine blk_drewN ?_ _ | refine blk_drew ?_ | refine blk_alloc ?_ _)); refine blk_put (cs := #[.int .i64 a3_0, .slice A3_1 l3_1.length c3_1, .int .i64 a3_2, .int .i64 a3_3, .int .i64 a3_4]) ?_ 2 _ rfl; (with_reducible repeat (first | refine blk_drewN ?_ _ | refine blk_drew ?_ | refine blk_alloc ?_ _)); exact BK341.out)) (below_size (by repeat (first | (with_reducible first | exact HB.out | apply below_alloc | apply pw_below_drewN | apply below_drew1 | refine below_set ?_ GE341.out) | exact HB.out)))); have n1_ := Aside0.mk (blk_below (g := gb341) (o := .cells #[.int .i64 a3_0, .slice A3_1 l3_1.length c3_1, .int .i64 a2, .int .i64 a3_3, .int .i64 a3_4] 41 (0, 0)) (by (with_reducible repeat (first | refine blk_drewN ?_ _ | refine blk_drew ?_ | refine blk_alloc ?_ _)); refine blk_put (cs := #[.int .i64 a3_0, .slice A3_1 l3_1.length c3_1, .int .i64 a3_2, .int .i64 a3_3, .int .i64 a3_4]) ?_ 2 _ rfl; (with_reducible repeat (first | refine blk_drewN ?_ _ | refine blk_drew ?_ | refine blk_alloc ?_ _)); exact BK341.out) hb); have n2_ := Aside0.mk (below_step (by repeat (first | (with_reducible first | exact HB.out | apply below_alloc | apply pw_below_drewN | apply below_drew1 | refine below_set ?_ GE341.out) | exact HB.out)) hb); clear BK341; clear HB; have HO345 := n0_; have BK341 := n1_; have HB := n2_; clear n0_ n1_ n2_; (try clear hb); (try clear hb2); (try clear hk); (try clear hi); (try clear ho0); have p10 : 0 ≤ (a1 : Int) := of_decide_eq_true (by first | (with_reducible assumption) | assumption); have q10 : (a1 : Int) < ((t343.length : Int) : Int) := of_decide_eq_true (by first | (with_reducible assumption) | assumption); obtain ⟨go10, co10, eo10, gb10, gl10, cl10, HG10⟩ := Kd.S_form HO345.out (by omega); (first | cases eo10 | (injection eo10 with ea_ en_ ec_; (first | subst ea_ | (injection ea_ with ea_; subst ea_)); subst ec_; clear en_)); have GB10 := Aside0.mk gb10; have GG10 := Aside0.mk HG10; clear gb10 gl10 HG10; obtain ⟨_, ce10, hcl10, hM10, hcc10, hfr10, _, _⟩ := Kd.S_elem HO345.out z41 (a1 : Int) p10 q10; obtain ⟨ve10_1, rfl, ge10_1⟩ := k41_openM hM10; have hx10_0 : w17.cell? ⟨go10, (a1 : Int).toNat * 5, none⟩ = some (.int .i64 ((rd_T41 t343 a1).f0)) := hcc10 0 _ rfl; have hx10_1 : w17.cell? ⟨go10, (a1 : Int).toNat * 5 + 1, none⟩ = some (ve10_1) := hcc10 1 _ rfl; have hx10_2 : w17.cell? ⟨go10, (a1 : Int).toNat * 5 + 2, none⟩ = some (.int .i64 ((rd_T41 t343 a1).f2)) := hcc10 2 _ rfl; have hx10_3 : w17.cell? ⟨go10, (a1 : Int).toNat * 5 + 3, none⟩ = some (.int .i64 ((rd_T41 t343 a1).f3)) := hcc10 3 _ rfl; have hx10_4 : w17.cell? ⟨go10, (a1 : Int).toNat * 5 + 4, none⟩ = some (.int .i64 ((rd_T41 t343 a1).f4)) := hcc10 4 _ rfl; have hf10_0 : w17.frozen? ⟨go10, (a1 : Int).toNat * 5, none⟩ = false := hfr10 0; have hf10_1 : w17.frozen? ⟨go10, (a1 : Int).toNat * 5 + 1, none⟩ = false := hfr10 1; have hf10_2 : w17.frozen? ⟨go10, (a1 : Int).toNat * 5 + 2, none⟩ = false := hfr10 2; have hf10_3 : w17.frozen? ⟨go10, (a1 : Int).toNat * 5 + 3, none⟩ = false := hfr10 3; have hf10_4 : w17.frozen? ⟨go10, (a1 : Int).toNat * 5 + 4, none⟩ = false := hfr10 4; clear hcl10 hcc10 hfr10 hM10; replace p10 := eq_true p10; replace q10 := eq_true q10; have n_ := Aside0.mk (Kd.S_mono (ok' := (fun k_ => k_ ≠ gb341)) HO345.out (fun k_ hk => hk.2)); clear HO345; have HO345 := n_; clear n_; have HX18 := Aside0.mk (show Kd.S k41 41 w17 w.heap.size (fun k_ => ((fun k_ => k_ ≠ gb341)) k_ ∧ ¬ ((fun _ => False)) k_) (.slice (some ⟨go10, 0, none⟩) t343.length co10) t343 from (by (with_reducible repeat (first | apply Kd.S_alloc | apply Kd.S_drewN | apply Kd.S_drew)); exact Kd.S_mono HO345.out (fun k_ hk => ⟨hk, fun e_ => e_⟩))); obtain ⟨oki18, ce18, hcl18, hM18, hcc18, hfr18, hoki18, hH18⟩ := Kd.S_elem HX18.out z41 (a1 : Int) (of_decide_eq_true (by first | (with_reducible assumption) | assumption)) (by have h_ : (a1 : Int) < ((t343.length : Int) : Int) := of_decide_eq_true (by first | (with_reducible assumption) | assumption); first | exact h_ | (have e_ := (Kd.S_reads' HO345.out).1; omega) | simpa using h_); obtain ⟨ve18_1, rfl, ge18_1⟩ := k41_openM hM18; have HP18 := Kd.S_seg hH18 (of_decide_eq_true (by first | (with_reducible assumption) | assumption)) (by have h_ : (a1 : Int) < ((t343.length : Int) : Int) := of_decide_eq_true (by first | (with_reducible assumption) | assumption); first | exact h_ | (have e_ := (Kd.S_reads' HO345.out).1; omega) | simpa using h_) (seg := [.int .i64 (wrap64 (a2 - 1))]) (j := 3) (show 4 ≤ 5 from by decide) (x' := (⟨(rd_T41 t343 a1).f0, (rd_T41 t343 a1).f1, (rd_T41 t343 a1).f2, wrap64 (a2 - 1), (rd_T41 t343 a1).f4⟩ : S41)) (k41_mkM _ _ _ (⟨(rd_T41 t343 a1).f0, (rd_T41 t343 a1).f1, (rd_T41 t343 a1).f2, wrap64 (a2 - 1), (rd_T41 t343 a1).f4⟩ : S41) (Kd.R_mono ge18_1 (fun _ h_ => Or.inl h_))) (fun _ hk => hk) (fun k_ hk_ => hk_.elim); have hx18_3 := hcc18 3 _ rfl; (try simp only [show (k41).sz = 5 from rfl, Nat.mul_one, Nat.add_zero] at hx18_3); have hf18_3 := hfr18 3; (try simp only [show (k41).sz = 5 from rfl, Nat.mul_one, Nat.add_zero] at hf18_3); clear hcl18 hcc18 hfr18 hM18 hoki18 hH18) | ((with_reducible refine gate_store (t := 2) (p := 25) rfl ?_); refine store_event (t := 2) (p := 25) (v := ?vo_w19) (w1 := (w17.setCell ⟨go10, (a1 : Int).toNat * 5 + 3, none⟩ (.int .i64 (wrap64 (a2 - 1))))) ?hg ?ho ?hn ?hr ?_; (case ho => rfl); (case hg => rfl); (case hn => rfl); (case hr => first | (go_simp; done) | (go_simp; rfl)); intro w19 hw; have hg : w17.grownBy w19 (some go10) := (by rw [hw]; exact HP18.2); have hp_ : Kd.S k41 41 w19 w.heap.size (fun k_ => k_ ≠ gb341) (.slice (some ⟨go10, 0, none⟩) t343.length co10) y346 := (by rw [hw, Ny346.out]; exact HP18.1); clear HP18; have n0_ := Aside0.mk (blk_grown (g := gb341) (o := .cells #[.int .i64 a3_0, .slice A3_1 l3_1.length c3_1, .int .i64 a2, .int .i64 a3_3, .int .i64 a3_4] 41 (0, 0)) (by (with_reducible repeat (first | refine blk_drewN ?_ _ | refine blk_drew ?_ | refine blk_alloc ?_ _)); exact BK341.out) hg (Kd.S_away HO345.out (fun _ hk => hk))); have n1_ := Aside0.mk (hp_); have n2_ := Aside0.mk ((by rw [hw]; exact below_set (HB.out) GB10.out : Below w.heap.size w w19)); clear BK341; clear HO345; clear HB; have BK341 := n0_; have HO345 := n1_; have HB := n2_; clear n0_ n1_ n2_; clear hg hw hp_) | ((with_reducible refine gate_dst (N := 26) rfl ?_); refine Kd.R_lit (Kd.int .i64) _ 2 ?hg (N := 26) ?hd (xs := ([] : List Int)) (inner := []) (ok := fun _ => True) (okp := fun _ => True) ?hr ?hp (fun _ hk => hk) trivial (Below.refl _ _) (Nat.le_refl _) (by simp) ?_; (case hd => rfl); (case hg => rfl); (case hr => first | (go_simp; done) | (go_simp; rfl)); (case hp => exact (Reps.none _ _)); intro v348 w20 ho21 hb hg_ hnew_; clear hg_ hnew_; (first | rw [← Ny347.out] at ho21 | (simp only [Int.reduceToNat] at ho21; rw [← Ny347.out] at ho21)); have n0_ := Aside0.mk (Kd.S_elder' (by (with_reducible repeat (first | apply Kd.S_alloc | apply Kd.S_drewN | apply Kd.S_drew)); exact HO345.out) (Kd.R_base ho21) hb); have n1_ := Aside0.mk (Kd.R_lower ho21 (below_size (by repeat (first | (with_reducible first | exact HB.out | apply below_alloc | apply pw_below_drewN | apply below_drew1 | refine below_set ?_ GE341.out) | exact HB.out)))); have n2_ := Aside0.mk (blk_below (g := gb341) (o := .cells #[.int .i64 a3_0, .slice A3_1 l3_1.length c3_1, .int .i64 a2, .int .i64 a3_3, .int .i64 a3_4] 41 (0, 0)) (by (with_reducible repeat (first | refine blk_drewN ?_ _ | refine blk_drew ?_ | refine blk_alloc ?_ _)); exact BK341.out) hb); have n3_ := Aside0.mk (below_step (by repeat (first | (with_reducible first | exact HB.out | apply below_alloc | apply pw_below_drewN | apply below_drew1 | refine below_set ?_ GE341.out) | exact HB.out)) hb); clear HO345; clear BK341; clear HB; have HO345 := n0_; have HO349 := n1_; have BK341 := n2_; have HB := n3_; clear n0_ n1_ n2_ n3_; clear hb ho21; have hcz22_0 : w20.cell? ⟨gb341, 0, none⟩ = some (.int .i64 a3_0) := (blk_cell BK341.out 0).trans rfl; have hcz22_1 : w20.cell? ⟨gb341, 1, none⟩ = some (.slice A3_1 l3_1.length c3_1) := (blk_cell BK341.out 1).trans rfl; have hcz22_2 : w20.cell? ⟨gb341, 2, none⟩ = some (.int .i64 a2) := (blk_cell BK341.out 2).trans rfl; have hcz22_3 : w20.cell? ⟨gb341, 3, none⟩ = some (.int .i64 a3_3) := (blk_cell BK341.out 3).trans rfl; have hcz22_4 : w20.cell? ⟨gb341, 4, none⟩ = some (.int .i64 a3_4) := (blk_cell BK341.out 4).trans rfl; have hfz22_0 := blk_frozen BK341.out 0; have hfz22_1 := blk_frozen BK341.out 1; have hfz22_2 := blk_frozen BK341.out 2; have hfz22_3 := blk_frozen BK341.out 3; have hfz22_4 := blk_frozen BK341.out 4) | ((with_reducible refine gate_builtin (b := .append) (xs := #[.tmp 26, .tmp 28]) rfl ?_); at_builtin; refine Kd.R_append_rows (Kd.int .i64) (w0 := w) w.heap.size rfl (.tmp 26) (.tmp 28) 26 2 (.int .i64 0) 8 rfl Tryz.underlying26 info2 rfl (by decide) (by omega) v348 y347 l3_1 _ _ _ (fun _ => True) (fun _ => False) rfl rfl ?aO ?aR (fun _ _ h => h) (fun _ h => h.elim) ?aF ?aB ?aS ?aL ?_; (case aR => repeat (first | exact (Kd.C_below HR3_1.out HB.out) | (with_reducible refine Kd.C_alloc ?_ _) | (with_reducible refine Kd.C_drewN ?_ _) | (with_reducible refine Kd.C_drew ?_))); (case aB => exact (by repeat (first | (with_reducible first | exact HB.out | apply below_alloc | apply pw_below_drewN | apply below_drew1 | refine below_set ?_ GE341.out) | exact HB.out))); (case aF => exact (fun _ _ => trivial)); (case aO => exact (by (with_reducible repeat (first | apply Kd.R_alloc | apply Kd.R_drewN | apply Kd.R_drew)); exact HO349.out)); (case aS => exact (below_size (by repeat (first | (with_reducible first | exact HB.out | apply below_alloc | apply pw_below_drewN | apply below_drew1 | refine below_set ?_ GE341.out) | exact HB.out)))); (case aL => have := LMc11.out; omega); intro v351 w23 ho hb hg hat; rw [← Ny350.out] at ho; have n0_ := Aside0.mk (blk_grown (g := gb341) (o := .cells #[.int .i64 a3_0, .slice A3_1 l3_1.length c3_1, .int .i64 a2, .int .i64 a3_3, .int .i64 a3_4] 41 (0, 0)) (by (with_reducible repeat (first | refine blk_drewN ?_ _ | refine blk_drew ?_ | refine blk_alloc ?_ _)); exact BK341.out) hg (Kd.R_ne HO349.out BK341.out (by decide))); have n1_ := Aside0.mk (Kd.S_after (ok := (fun k_ => k_ ≠ gb341)) (by (with_reducible repeat (first | apply Kd.S_alloc | apply Kd.S_drewN | apply Kd.S_drew)); exact HO345.out) hg hat); have n2_ := Aside0.mk (hb); have n3_ := Aside0.mk (ho); clear BK341; clear HO345; clear HB; clear HO349; have BK341 := n0_; have HO345 := n1_; have HB := n2_; have HO352 := n3_; clear n0_ n1_ n2_ n3_; clear ho hb hg hat; obtain ⟨Ao24, co24, eo24⟩ := Kd.R_slice HO352.out; subst eo24; have hcz25_0 : w23.cell? ⟨gb341, 0, none⟩ = some (.int .i64 a3_0) := (blk_cell BK341.out 0).trans rfl; have hcz25_1 : w23.cell? ⟨gb341, 1, none⟩ = some (.slice A3_1 l3_1.length c3_1) := (blk_cell BK341.out 1).trans rfl; have hcz25_2 : w23.cell? ⟨gb341, 2, none⟩ = some (.int .i64 a2) := (blk_cell BK341.out 2).trans rfl; have hcz25_3 : w23.cell? ⟨gb341, 3, none⟩ = some (.int .i64 a3_3) := (blk_cell BK341.out 3).trans rfl; have hcz25_4 : w23.cell? ⟨gb341, 4, none⟩ = some (.int .i64 a3_4) := (blk_cell BK341.out 4).trans rfl; have hfz25_0 := blk_frozen BK341.out 0; have hfz25_1 := blk_frozen BK341.out 1; have hfz25_2 := blk_frozen BK341.out 2; have hfz25_3 := blk_frozen BK341.out 3; have hfz25_4 := blk_frozen BK341.out 4) | ((with_reducible refine gate_store (t := 26) (p := 30) rfl ?_); refine store_event (t := 26) (p := 30) (v := ?vo_w26) (w1 := (w23.setCell ⟨gb341, 1, none⟩ (.slice Ao24 y350.length co24))) ?hg ?ho ?hn ?hr ?_; (case ho => rfl); (case hg => rfl); (case hn => rfl); (case hr => first | (go_simp; done) | (go_simp; rfl)); intro w26 hw; have n0_ : Aside0 (Kd.S k41 41 w26 w.heap.size (fun k_ => some k_ ≠ (.slice Ao24 y350.length co24 : Value).ownBlock ∧ k_ ≠ gb341) (.slice (some ⟨go10, 0, none⟩) t343.length co10) y346) := ⟨(by rw [hw]; exact (by (with_reducible repeat (first | apply Kd.S_alloc | apply Kd.S_drewN | apply Kd.S_drew)); exact Kd.S_mono (Kd.S_far (p := ⟨gb341, 1, none⟩) (Kd.S_mono HO345.out (fun k_ hk => (⟨hk, hk.1⟩ : _ ∧ k_ ≠ gb341))) (fun _ hk => hk.2) (.slice Ao24 y350.length co24)) (fun _ hk => ⟨hk.1.2, hk.1.1⟩)))⟩; have n1_ : Aside0 (Kd.R (Kd.int .i64) 2 w26 w.heap.size (fun _ => True) (.slice Ao24 y350.length co24) y350) := ⟨(by rw [hw]; exact (by (with_reducible repeat (first | apply Kd.R_alloc | apply Kd.R_drewN | apply Kd.R_drew)); exact Kd.R_mono (Kd.R_far (p := ⟨gb341, 1, none⟩) (Kd.R_types HO352.out BK341.out (by decide)) (fun _ hk => hk.2) (.slice Ao24 y350.length co24)) (fun _ hk => trivial)))⟩; have n2_ : Aside0 (w26.heap[gb341]? = some (.cells #[.int .i64 a3_0, .slice Ao24 y350.length co24, .int .i64 a2, .int .i64 a3_3, .int .i64 a3_4] 41 (0, 0))) := ⟨(by rw [hw]; exact (by (with_reducible repeat (first | refine blk_drewN ?_ _ | refine blk_drew ?_ | refine blk_alloc ?_ _)); refine blk_put (cs := #[.int .i64 a3_0, .slice A3_1 l3_1.length c3_1, .int .i64 a2, .int .i64 a3_3, .int .i64 a3_4]) ?_ 1 _ rfl; (with_reducible repeat (first | refine blk_drewN ?_ _ | refine blk_drew ?_ | refine blk_alloc ?_ _)); exact BK341.out))⟩; have n3_ : Aside0 (Below w.heap.size w w26) := ⟨(by rw [hw]; exact (by repeat (first | (with_reducible first | exact HB.out | apply below_alloc | apply pw_below_drewN | apply below_drew1 | refine below_set ?_ GE341.out) | exact HB.out)))⟩; clear hw; clear HO345; clear HO352; clear BK341; clear HB; have HO345 := n0_; have HO352 := n1_; have BK341 := n2_; have HB := n3_; clear n0_ n1_ n2_ n3_; have hcz27_0 : w26.cell? ⟨gb341, 0, none⟩ = some (.int .i64 a3_0) := (blk_cell BK341.out 0).trans rfl; have hcz27_1 : w26.cell? ⟨gb341, 1, none⟩ = some (.slice Ao24 y350.length co24) := (blk_cell BK341.out 1).trans rfl; have hcz27_2 : w26.cell? ⟨gb341, 2, none⟩ = some (.int .i64 a2) := (blk_cell BK341.out 2).trans rfl; have hcz27_3 : w26.cell? ⟨gb341, 3, none⟩ = some (.int .i64 a3_3) := (blk_cell BK341.out 3).trans rfl; have hcz27_4 : w26.cell? ⟨gb341, 4, none⟩ = some (.int .i64 a3_4) := (blk_cell BK341.out 4).trans rfl; have hfz27_0 := blk_frozen BK341.out 0; have hfz27_1 := blk_frozen BK341.out 1; have hfz27_2 := blk_frozen BK341.out 2; have hfz27_3 := blk_frozen BK341.out 3; have hfz27_4 := blk_frozen BK341.out 4) | ((with_reducible refine gate_builtin (b := .append) (xs := #[.tmp 31, .tmp 33]) rfl ?_); at_builtin; refine Kd.S_append k41 (w0 := w) w.heap.size rfl (.tmp 31) (.tmp 33) 24 41 (.agg #[(.int .i64 0), (.slice none 0 0), (.int .i64 0), (.int .i64 0), (.int .i64 0)]) 56 rfl Tryz.underlying24 info41 rfl (by decide) (by omega) (.slice (some ⟨go10, 0, none⟩) t343.length co10) y346 (⟨a3_0, y350, a2, a3_3, a3_4⟩ : S41) [.int .i64 a3_0, .slice Ao24 y350.length co24, .int .i64 a2, .int .i64 a3_3, .int .i64 a3_4] (fun k_ => k_ ≠ gb341) (fun k_ => some k_ = (.slice Ao24 y350.length co24 : Value).ownBlock) rfl rfl ?aP (fun k_ hk_ => ((Kd.R_mono (ok' := fun k_ => ((fun k_ => k_ ≠ gb341)) k_ ∧ some k_ ≠ (.slice (some ⟨go10, 0, none⟩) t343.length co10 : Value).ownBlock) (Kd.R_types (Kd.R_apart' (HO352.out) (Kd.S_typed HO345.out) (by decide)) BK341.out (by decide)) (fun k_ hk => ⟨hk.2, hk.1.2⟩))).1 k_ hk_.symm) ?aF ?aO ?aB ?aS ?aL ?_; (case aP => exact k41_mkM _ _ _ (⟨a3_0, y350, a2, a3_3, a3_4⟩ : S41) (Kd.R_mono (Kd.R_tight rfl (Kd.R_mono (ok' := fun k_ => ((fun k_ => k_ ≠ gb341)) k_ ∧ some k_ ≠ (.slice (some ⟨go10, 0, none⟩) t343.length co10 : Value).ownBlock) (Kd.R_types (Kd.R_apart' (HO352.out) (Kd.S_typed HO345.out) (by decide)) BK341.out (by decide)) (fun k_ hk => ⟨hk.2, hk.1.2⟩))) (fun _ h_ => h_))); (case aB => exact (by repeat (first | (with_reducible first | exact HB.out | apply below_alloc | apply pw_below_drewN | apply below_drew1 | refine below_set ?_ GE341.out) | exact HB.out))); (case aF => exact (fun k_ hk => Kd.freshB (g := gb341) (o := .cells #[.int .i64 a3_0, .slice Ao24 y350.length co24, .int .i64 a2, .int .i64 a3_3, .int .i64 a3_4] 41 (0, 0)) (by (with_reducible repeat (first | refine blk_drewN ?_ _ | refine blk_drew ?_ | refine blk_alloc ?_ _)); exact BK341.out) k_ hk)); (case aO => exact (by (with_reducible repeat (first | apply Kd.S_alloc | apply Kd.S_drewN | apply Kd.S_drew)); exact Kd.S_mono HO345.out (fun k_ hk => ⟨hk.2, fun e_ => hk.1 e_⟩))); (case aS => exact (below_size (by repeat (first | (with_reducible first | exact HB.out | apply below_alloc | apply pw_below_drewN | apply below_drew1 | refine below_set ?_ GE341.out) | exact HB.out)))); (case aL => have := LMc12.out; omega); intro v354 w28 ho hb hg hat; rw [← Ny353.out] at ho; have n0_ := Aside0.mk (blk_grown (g := gb341) (o := .cells #[.int .i64 a3_0, .slice Ao24 y350.length co24, .int .i64 a2, .int .i64 a3_3, .int .i64 a3_4] 41 (0, 0)) (by (with_reducible repeat (first | refine blk_drewN ?_ _ | refine blk_drew ?_ | refine blk_alloc ?_ _)); exact BK341.out) hg (Kd.S_away HO345.out (fun _ hk => hk.2))); have n1_ := Aside0.mk (hb); have n2_ := Aside0.mk (ho); clear BK341; clear HB; clear HO345; clear HO352; have BK341 := n0_; have HB := n1_; have HO355 := n2_; clear n0_ n1_ n2_; clear ho hb hg hat; obtain ⟨Ao29, co29, eo29⟩ := Kd.S_slice HO355.out; subst eo29) | ((with_reducible refine gate_callee (f := 31) rfl ?_); refine goesL_ (some 36) rfl rfl Tryz.func31 (by kernel_rfl) rfl #[.slice Ao29 y353.length co29] rfl (by (try simp only [List.map_toArray, List.map_cons, List.map_nil]); first | done | rfl | (simp only [List.length_drop, List.length_take]; rfl)) ?_; (with_reducible refine (spec_l05Rules.calls _ _ y353 true _ ?side1 ?side2 A13.out).mono ?_); (case side1 => repeat (first | exact (Kd.S_reads' HO355.out).2.2 | (with_reducible refine Kd.C_alloc ?_ _) | (with_reducible refine Kd.C_drewN ?_ _) | (with_reducible refine Kd.C_drew ?_))); (case side2 => exact (Kd.S_reads' HO355.out).2.1); rintro e w' ⟨rfl, ⟨nd, rfl⟩⟩; refine ⟨_, rfl, ?_⟩))
              go_ret2
              exact ⟨_, by first | rfl | (simp [errW_none, errW_some] <;> rfl) | (simp [*, errW_none, errW_some] <;> rfl), by (with_reducible repeat (first | apply Kd.S_alloc | apply Kd.S_drewN | apply Kd.S_drew)); exact Kd.S_mono HO355.out (fun _ hk => trivial), by repeat (first | (with_reducible first | exact HB.out | apply below_alloc | apply pw_below_drewN | apply below_drew1 | refine below_set ?_ GE341.out) | exact HB.out)⟩
            · replace c14 := Bool.eq_false_iff.mpr c14
              subst c14
              have H1 : (some (([] : List (S41)), false)) = some (r1, r2) := by rw [if_neg (show ¬ (false = true) by decide)] at H; exact H
              clear H
              have H := H1
              clear H1
              simp only [Option.some.injEq, Prod.mk.injEq] at H
              obtain ⟨rfl, rfl⟩ := H
              go_enter Tryz.func17, Tryz.ntmps17
              go_wp2_with (first | ((with_reducible refine gate_dst (N := 7) rfl ?_); refine box_event ?hg (N := 7) ?hd (cs := #[.int .i64 a3_0, .slice A3_1 l3_1.length c3_1, .int .i64 a3_2, .int .i64 a3_3, .int .i64 a3_4]) (t := 41) ?hr ?_; (case hd => rfl); (case hg => rfl); (case hr => first | (go_simp; done) | (go_simp; rfl)); intro gb341 hg w30 hbox hb; have n0_ := Aside0.mk (below_step (by repeat (first | (with_reducible first | exact HB.out | apply below_alloc | apply pw_below_drewN | apply below_drew1) | exact HB.out)) hb); have n1_ := Aside0.mk (hbox); have n2_ := Aside0.mk ((by rw [hg]; exact (below_size (by repeat (first | (with_reducible first | exact HB.out | apply below_alloc | apply pw_below_drewN | apply below_drew1) | exact HB.out))) : w.heap.size ≤ gb341)); have n3_ := Aside0.mk ((by rw [hg]; exact (below_size (by repeat (first | (with_reducible first | exact HB.out | apply below_alloc | apply pw_below_drewN | apply below_drew1) | exact HB.out))) : w.heap.size ≤ gb341)); clear HB; have HB := n0_; have BK341 := n1_; have GW341 := n2_; have GE341 := n3_; clear n0_ n1_ n2_ n3_; clear hb hbox hg) | ((with_reducible refine gate_callee (f := 46) rfl ?_); refine goesL_ (some 14) rfl rfl Tryz.func46 (by kernel_rfl) rfl #[.slice A0 l0.length c0, .int .i64 a1, .int .i64 a2] rfl (by (try simp only [List.map_toArray, List.map_cons, List.map_nil]); first | done | rfl | (simp only [List.length_drop, List.length_take]; rfl)) ?_; (with_reducible refine (spec_l05Ends.calls _ _ l0 a1 a2 true _ ?side1 ?side2 A5.out).mono ?_); (case side1 => repeat (first | exact (Kd.C_below HR0.out HB.out) | (with_reducible refine Kd.C_alloc ?_ _) | (with_reducible refine Kd.C_drewN ?_ _) | (with_reducible refine Kd.C_drew ?_))); (case side2 => exact HC0.out); rintro e w' ⟨rfl, ⟨nd, rfl⟩⟩; refine ⟨_, rfl, ?_⟩; (try (rw [drewN_self w30]; generalize hq_ : World.drewN w30 _ = w30; have n0_ : Aside0 (w30.heap[gb341]? = some (.cells #[.int .i64 a3_0, .slice A3_1 l3_1.length c3_1, .int .i64 a3_2, .int .i64 a3_3, .int .i64 a3_4] 41 (0, 0))) := ⟨by rw [← hq_]; exact (by (with_reducible repeat (first | refine blk_drewN ?_ _ | refine blk_drew ?_ | refine blk_alloc ?_ _)); exact BK341.out)⟩; have n1_ : Aside0 (Below w.heap.size w w30) := ⟨by rw [← hq_]; exact (by repeat (first | (with_reducible first | exact HB.out | apply below_alloc | apply pw_below_drewN | apply below_drew1 | refine below_set ?_ GE341.out) | exact HB.out))⟩; clear BK341 HB hq_; have BK341 := n0_; have HB := n1_; clear n0_ n1_)); have hcz31_0 : w30.cell? ⟨gb341, 0, none⟩ = some (.int .i64 a3_0) := (blk_cell BK341.out 0).trans rfl; have hcz31_1 : w30.cell? ⟨gb341, 1, none⟩ = some (.slice A3_1 l3_1.length c3_1) := (blk_cell BK341.out 1).trans rfl; have hcz31_2 : w30.cell? ⟨gb341, 2, none⟩ = some (.int .i64 a3_2) := (blk_cell BK341.out 2).trans rfl; have hcz31_3 : w30.cell? ⟨gb341, 3, none⟩ = some (.int .i64 a3_3) := (blk_cell BK341.out 3).trans rfl; have hcz31_4 : w30.cell? ⟨gb341, 4, none⟩ = some (.int .i64 a3_4) := (blk_cell BK341.out 4).trans rfl; have hfz31_0 := blk_frozen BK341.out 0; have hfz31_1 := blk_frozen BK341.out 1; have hfz31_2 := blk_frozen BK341.out 2; have hfz31_3 := blk_frozen BK341.out 3; have hfz31_4 := blk_frozen BK341.out 4) | ((with_reducible refine gate_callee (f := 47) rfl ?_); refine goesL_ (some 19) rfl rfl Tryz.func47 (by kernel_rfl) rfl #[.slice A0 l0.length c0] rfl (by (try simp only [List.map_toArray, List.map_cons, List.map_nil]); first | done | rfl | (simp only [List.length_drop, List.length_take]; rfl)) ?_; (with_reducible refine (spec_l05OwnRules.calls k _ _ l0 t343 _ ?side1 ?side2 A7.out).mono ?_); (case side1 => exact Kd.C_below HR0.out (by repeat (first | (with_reducible first | exact HB.out | apply below_alloc | apply pw_below_drewN | apply below_drew1 | refine below_set ?_ GE341.out) | exact HB.out))); (case side2 => exact HC0.out); rintro e w32 ⟨v344, rfl, ho0, hb⟩; refine ⟨_, rfl, ?_⟩; have n0_ := Aside0.mk (Kd.S_lower (Kd.S_newB ho0 (g := gb341) (o := .cells #[.int .i64 a3_0, .slice A3_1 l3_1.length c3_1, .int .i64 a2, .int .i64 a3_3, .int .i64 a3_4] 41 (0, 0)) (by (with_reducible repeat (first | refine blk_drewN ?_ _ | refine blk_drew ?_ | refine blk_alloc ?_ _)); refine blk_put (cs := #[.int .i64 a3_0, .slice A3_1 l3_1.length c3_1, .int .i64 a3_2, .int .i64 a3_3, .int .i64 a3_4]) ?_ 2 _ rfl; (with_reducible repeat (first | refine blk_drewN ?_ _ | refine blk_drew ?_ | refine blk_alloc ?_ _)); exact BK341.out)) (below_size (by repeat (first | (with_reducible first | exact HB.out | apply below_alloc | apply pw_below_drewN | apply below_drew1 | refine below_set ?_ GE341.out) | exact HB.out)))); have n1_ := Aside0.mk (blk_below (g := gb341) (o := .cells #[.int .i64 a3_0, .slice A3_1 l3_1.length c3_1, .int .i64 a2, .int .i64 a3_3, .int .i64 a3_4] 41 (0, 0)) (by (with_reducible repeat (first | refine blk_drewN ?_ _ | refine blk_drew ?_ | refine blk_alloc ?_ _)); refine blk_put (cs := #[.int .i64 a3_0, .slice A3_1 l3_1.length c3_1, .int .i64 a3_2, .int .i64 a3_3, .int .i64 a3_4]) ?_ 2 _ rfl; (with_reducible repeat (first | refine blk_drewN ?_ _ | refine blk_drew ?_ | refine blk_alloc ?_ _)); exact BK341.out) hb); have n2_ := Aside0.mk (below_step (by repeat (first | (with_reducible first | exact HB.out | apply below_alloc | apply pw_below_drewN | apply below_drew1 | refine below_set ?_ GE341.out) | exact HB.out)) hb); clear BK341; clear HB; have HO345 := n0_; have BK341 := n1_; have HB := n2_; clear n0_ n1_ n2_; (try clear hb); (try clear hb2); (try clear hk); (try clear hi); (try clear ho0); have p10 : 0 ≤ (a1 : Int) := of_decide_eq_true (by first | (with_reducible assumption) | assumption); have q10 : (a1 : Int) < ((t343.length : Int) : Int) := of_decide_eq_true (by first | (with_reducible assumption) | assumption); obtain ⟨go10, co10, eo10, gb10, gl10, cl10, HG10⟩ := Kd.S_form HO345.out (by omega); (first | cases eo10 | (injection eo10 with ea_ en_ ec_; (first | subst ea_ | (injection ea_ with ea_; subst ea_)); subst ec_; clear en_)); have GB10 := Aside0.mk gb10; have GG10 := Aside0.mk HG10; clear gb10 gl10 HG10; obtain ⟨_, ce10, hcl10, hM10, hcc10, hfr10, _, _⟩ := Kd.S_elem HO345.out z41 (a1 : Int) p10 q10; obtain ⟨ve10_1, rfl, ge10_1⟩ := k41_openM hM10; have hx10_0 : w32.cell? ⟨go10, (a1 : Int).toNat * 5, none⟩ = some (.int .i64 ((rd_T41 t343 a1).f0)) := hcc10 0 _ rfl; have hx10_1 : w32.cell? ⟨go10, (a1 : Int).toNat * 5 + 1, none⟩ = some (ve10_1) := hcc10 1 _ rfl; have hx10_2 : w32.cell? ⟨go10, (a1 : Int).toNat * 5 + 2, none⟩ = some (.int .i64 ((rd_T41 t343 a1).f2)) := hcc10 2 _ rfl; have hx10_3 : w32.cell? ⟨go10, (a1 : Int).toNat * 5 + 3, none⟩ = some (.int .i64 ((rd_T41 t343 a1).f3)) := hcc10 3 _ rfl; have hx10_4 : w32.cell? ⟨go10, (a1 : Int).toNat * 5 + 4, none⟩ = some (.int .i64 ((rd_T41 t343 a1).f4)) := hcc10 4 _ rfl; have hf10_0 : w32.frozen? ⟨go10, (a1 : Int).toNat * 5, none⟩ = false := hfr10 0; have hf10_1 : w32.frozen? ⟨go10, (a1 : Int).toNat * 5 + 1, none⟩ = false := hfr10 1; have hf10_2 : w32.frozen? ⟨go10, (a1 : Int).toNat * 5 + 2, none⟩ = false := hfr10 2; have hf10_3 : w32.frozen? ⟨go10, (a1 : Int).toNat * 5 + 3, none⟩ = false := hfr10 3; have hf10_4 : w32.frozen? ⟨go10, (a1 : Int).toNat * 5 + 4, none⟩ = false := hfr10 4; clear hcl10 hcc10 hfr10 hM10; replace p10 := eq_true p10; replace q10 := eq_true q10; have n_ := Aside0.mk (Kd.S_mono (ok' := (fun k_ => k_ ≠ gb341)) HO345.out (fun k_ hk => hk.2)); clear HO345; have HO345 := n_; clear n_; have HX33 := Aside0.mk (show Kd.S k41 41 w32 w.heap.size (fun k_ => ((fun k_ => k_ ≠ gb341)) k_ ∧ ¬ ((fun _ => False)) k_) (.slice (some ⟨go10, 0, none⟩) t343.length co10) t343 from (by (with_reducible repeat (first | apply Kd.S_alloc | apply Kd.S_drewN | apply Kd.S_drew)); exact Kd.S_mono HO345.out (fun k_ hk => ⟨hk, fun e_ => e_⟩))); obtain ⟨oki33, ce33, hcl33, hM33, hcc33, hfr33, hoki33, hH33⟩ := Kd.S_elem HX33.out z41 (a1 : Int) (of_decide_eq_true (by first | (with_reducible assumption) | assumption)) (by have h_ : (a1 : Int) < ((t343.length : Int) : Int) := of_decide_eq_true (by first | (with_reducible assumption) | assumption); first | exact h_ | (have e_ := (Kd.S_reads' HO345.out).1; omega) | simpa using h_); obtain ⟨ve33_1, rfl, ge33_1⟩ := k41_openM hM33; have HP33 := Kd.S_seg hH33 (of_decide_eq_true (by first | (with_reducible assumption) | assumption)) (by have h_ : (a1 : Int) < ((t343.length : Int) : Int) := of_decide_eq_true (by first | (with_reducible assumption) | assumption); first | exact h_ | (have e_ := (Kd.S_reads' HO345.out).1; omega) | simpa using h_) (seg := [.int .i64 (wrap64 (a2 - 1))]) (j := 3) (show 4 ≤ 5 from by decide) (x' := (⟨(rd_T41 t343 a1).f0, (rd_T41 t343 a1).f1, (rd_T41 t343 a1).f2, wrap64 (a2 - 1), (rd_T41 t343 a1).f4⟩ : S41)) (k41_mkM _ _ _ (⟨(rd_T41 t343 a1).f0, (rd_T41 t343 a1).f1, (rd_T41 t343 a1).f2, wrap64 (a2 - 1), (rd_T41 t343 a1).f4⟩ : S41) (Kd.R_mono ge33_1 (fun _ h_ => Or.inl h_))) (fun _ hk => hk) (fun k_ hk_ => hk_.elim); have hx33_3 := hcc33 3 _ rfl; (try simp only [show (k41).sz = 5 from rfl, Nat.mul_one, Nat.add_zero] at hx33_3); have hf33_3 := hfr33 3; (try simp only [show (k41).sz = 5 from rfl, Nat.mul_one, Nat.add_zero] at hf33_3); clear hcl33 hcc33 hfr33 hM33 hoki33 hH33) | ((with_reducible refine gate_store (t := 2) (p := 25) rfl ?_); refine store_event (t := 2) (p := 25) (v := ?vo_w34) (w1 := (w32.setCell ⟨go10, (a1 : Int).toNat * 5 + 3, none⟩ (.int .i64 (wrap64 (a2 - 1))))) ?hg ?ho ?hn ?hr ?_; (case ho => rfl); (case hg => rfl); (case hn => rfl); (case hr => first | (go_simp; done) | (go_simp; rfl)); intro w34 hw; have hg : w32.grownBy w34 (some go10) := (by rw [hw]; exact HP33.2); have hp_ : Kd.S k41 41 w34 w.heap.size (fun k_ => k_ ≠ gb341) (.slice (some ⟨go10, 0, none⟩) t343.length co10) y346 := (by rw [hw, Ny346.out]; exact HP33.1); clear HP33; have n0_ := Aside0.mk (blk_grown (g := gb341) (o := .cells #[.int .i64 a3_0, .slice A3_1 l3_1.length c3_1, .int .i64 a2, .int .i64 a3_3, .int .i64 a3_4] 41 (0, 0)) (by (with_reducible repeat (first | refine blk_drewN ?_ _ | refine blk_drew ?_ | refine blk_alloc ?_ _)); exact BK341.out) hg (Kd.S_away HO345.out (fun _ hk => hk))); have n1_ := Aside0.mk (hp_); have n2_ := Aside0.mk ((by rw [hw]; exact below_set (HB.out) GB10.out : Below w.heap.size w w34)); clear BK341; clear HO345; clear HB; have BK341 := n0_; have HO345 := n1_; have HB := n2_; clear n0_ n1_ n2_; clear hg hw hp_) | ((with_reducible refine gate_dst (N := 26) rfl ?_); refine Kd.R_lit (Kd.int .i64) _ 2 ?hg (N := 26) ?hd (xs := ([] : List Int)) (inner := []) (ok := fun _ => True) (okp := fun _ => True) ?hr ?hp (fun _ hk => hk) trivial (Below.refl _ _) (Nat.le_refl _) (by simp) ?_; (case hd => rfl); (case hg => rfl); (case hr => first | (go_simp; done) | (go_simp; rfl)); (case hp => exact (Reps.none _ _)); intro v348 w35 ho36 hb hg_ hnew_; clear hg_ hnew_; (first | rw [← Ny347.out] at ho36 | (simp only [Int.reduceToNat] at ho36; rw [← Ny347.out] at ho36)); have n0_ := Aside0.mk (Kd.S_elder' (by (with_reducible repeat (first | apply Kd.S_alloc | apply Kd.S_drewN | apply Kd.S_drew)); exact HO345.out) (Kd.R_base ho36) hb); have n1_ := Aside0.mk (Kd.R_lower ho36 (below_size (by repeat (first | (with_reducible first | exact HB.out | apply below_alloc | apply pw_below_drewN | apply below_drew1 | refine below_set ?_ GE341.out) | exact HB.out)))); have n2_ := Aside0.mk (blk_below (g := gb341) (o := .cells #[.int .i64 a3_0, .slice A3_1 l3_1.length c3_1, .int .i64 a2, .int .i64 a3_3, .int .i64 a3_4] 41 (0, 0)) (by (with_reducible repeat (first | refine blk_drewN ?_ _ | refine blk_drew ?_ | refine blk_alloc ?_ _)); exact BK341.out) hb); have n3_ := Aside0.mk (below_step (by repeat (first | (with_reducible first | exact HB.out | apply below_alloc | apply pw_below_drewN | apply below_drew1 | refine below_set ?_ GE341.out) | exact HB.out)) hb); clear HO345; clear BK341; clear HB; have HO345 := n0_; have HO349 := n1_; have BK341 := n2_; have HB := n3_; clear n0_ n1_ n2_ n3_; clear hb ho36; have hcz37_0 : w35.cell? ⟨gb341, 0, none⟩ = some (.int .i64 a3_0) := (blk_cell BK341.out 0).trans rfl; have hcz37_1 : w35.cell? ⟨gb341, 1, none⟩ = some (.slice A3_1 l3_1.length c3_1) := (blk_cell BK341.out 1).trans rfl; have hcz37_2 : w35.cell? ⟨gb341, 2, none⟩ = some (.int .i64 a2) := (blk_cell BK341.out 2).trans rfl; have hcz37_3 : w35.cell? ⟨gb341, 3, none⟩ = some (.int .i64 a3_3) := (blk_cell BK341.out 3).trans rfl; have hcz37_4 : w35.cell? ⟨gb341, 4, none⟩ = some (.int .i64 a3_4) := (blk_cell BK341.out 4).trans rfl; have hfz37_0 := blk_frozen BK341.out 0; have hfz37_1 := blk_frozen BK341.out 1; have hfz37_2 := blk_frozen BK341.out 2; have hfz37_3 := blk_frozen BK341.out 3; have hfz37_4 := blk_frozen BK341.out 4) | ((with_reducible refine gate_builtin (b := .append) (xs := #[.tmp 26, .tmp 28]) rfl ?_); at_builtin; refine Kd.R_append_rows (Kd.int .i64) (w0 := w) w.heap.size rfl (.tmp 26) (.tmp 28) 26 2 (.int .i64 0) 8 rfl Tryz.underlying26 info2 rfl (by decide) (by omega) v348 y347 l3_1 _ _ _ (fun _ => True) (fun _ => False) rfl rfl ?aO ?aR (fun _ _ h => h) (fun _ h => h.elim) ?aF ?aB ?aS ?aL ?_; (case aR => repeat (first | exact (Kd.C_below HR3_1.out HB.out) | (with_reducible refine Kd.C_alloc ?_ _) | (with_reducible refine Kd.C_drewN ?_ _) | (with_reducible refine Kd.C_drew ?_))); (case aB => exact (by repeat (first | (with_reducible first | exact HB.out | apply below_alloc | apply pw_below_drewN | apply below_drew1 | refine below_set ?_ GE341.out) | exact HB.out))); (case aF => exact (fun _ _ => trivial)); (case aO => exact (by (with_reducible repeat (first | apply Kd.R_alloc | apply Kd.R_drewN | apply Kd.R_drew)); exact HO349.out)); (case aS => exact (below_size (by repeat (first | (with_reducible first | exact HB.out | apply below_alloc | apply pw_below_drewN | apply below_drew1 | refine below_set ?_ GE341.out) | exact HB.out)))); (case aL => have := LMc11.out; omega); intro v351 w38 ho hb hg hat; rw [← Ny350.out] at ho; have n0_ := Aside0.mk (blk_grown (g := gb341) (o := .cells #[.int .i64 a3_0, .slice A3_1 l3_1.length c3_1, .int .i64 a2, .int .i64 a3_3, .int .i64 a3_4] 41 (0, 0)) (by (with_reducible repeat (first | refine blk_drewN ?_ _ | refine blk_drew ?_ | refine blk_alloc ?_ _)); exact BK341.out) hg (Kd.R_ne HO349.out BK341.out (by decide))); have n1_ := Aside0.mk (Kd.S_after (ok := (fun k_ => k_ ≠ gb341)) (by (with_reducible repeat (first | apply Kd.S_alloc | apply Kd.S_drewN | apply Kd.S_drew)); exact HO345.out) hg hat); have n2_ := Aside0.mk (hb); have n3_ := Aside0.mk (ho); clear BK341; clear HO345; clear HB; clear HO349; have BK341 := n0_; have HO345 := n1_; have HB := n2_; have HO352 := n3_; clear n0_ n1_ n2_ n3_; clear ho hb hg hat; obtain ⟨Ao39, co39, eo39⟩ := Kd.R_slice HO352.out; subst eo39; have hcz40_0 : w38.cell? ⟨gb341, 0, none⟩ = some (.int .i64 a3_0) := (blk_cell BK341.out 0).trans rfl; have hcz40_1 : w38.cell? ⟨gb341, 1, none⟩ = some (.slice A3_1 l3_1.length c3_1) := (blk_cell BK341.out 1).trans rfl; have hcz40_2 : w38.cell? ⟨gb341, 2, none⟩ = some (.int .i64 a2) := (blk_cell BK341.out 2).trans rfl; have hcz40_3 : w38.cell? ⟨gb341, 3, none⟩ = some (.int .i64 a3_3) := (blk_cell BK341.out 3).trans rfl; have hcz40_4 : w38.cell? ⟨gb341, 4, none⟩ = some (.int .i64 a3_4) := (blk_cell BK341.out 4).trans rfl; have hfz40_0 := blk_frozen BK341.out 0; have hfz40_1 := blk_frozen BK341.out 1; have hfz40_2 := blk_frozen BK341.out 2; have hfz40_3 := blk_frozen BK341.out 3; have hfz40_4 := blk_frozen BK341.out 4) | ((with_reducible refine gate_store (t := 26) (p := 30) rfl ?_); refine store_event (t := 26) (p := 30) (v := ?vo_w41) (w1 := (w38.setCell ⟨gb341, 1, none⟩ (.slice Ao39 y350.length co39))) ?hg ?ho ?hn ?hr ?_; (case ho => rfl); (case hg => rfl); (case hn => rfl); (case hr => first | (go_simp; done) | (go_simp; rfl)); intro w41 hw; have n0_ : Aside0 (Kd.S k41 41 w41 w.heap.size (fun k_ => some k_ ≠ (.slice Ao39 y350.length co39 : Value).ownBlock ∧ k_ ≠ gb341) (.slice (some ⟨go10, 0, none⟩) t343.length co10) y346) := ⟨(by rw [hw]; exact (by (with_reducible repeat (first | apply Kd.S_alloc | apply Kd.S_drewN | apply Kd.S_drew)); exact Kd.S_mono (Kd.S_far (p := ⟨gb341, 1, none⟩) (Kd.S_mono HO345.out (fun k_ hk => (⟨hk, hk.1⟩ : _ ∧ k_ ≠ gb341))) (fun _ hk => hk.2) (.slice Ao39 y350.length co39)) (fun _ hk => ⟨hk.1.2, hk.1.1⟩)))⟩; have n1_ : Aside0 (Kd.R (Kd.int .i64) 2 w41 w.heap.size (fun _ => True) (.slice Ao39 y350.length co39) y350) := ⟨(by rw [hw]; exact (by (with_reducible repeat (first | apply Kd.R_alloc | apply Kd.R_drewN | apply Kd.R_drew)); exact Kd.R_mono (Kd.R_far (p := ⟨gb341, 1, none⟩) (Kd.R_types HO352.out BK341.out (by decide)) (fun _ hk => hk.2) (.slice Ao39 y350.length co39)) (fun _ hk => trivial)))⟩; have n2_ : Aside0 (w41.heap[gb341]? = some (.cells #[.int .i64 a3_0, .slice Ao39 y350.length co39, .int .i64 a2, .int .i64 a3_3, .int .i64 a3_4] 41 (0, 0))) := ⟨(by rw [hw]; exact (by (with_reducible repeat (first | refine blk_drewN ?_ _ | refine blk_drew ?_ | refine blk_alloc ?_ _)); refine blk_put (cs := #[.int .i64 a3_0, .slice A3_1 l3_1.length c3_1, .int .i64 a2, .int .i64 a3_3, .int .i64 a3_4]) ?_ 1 _ rfl; (with_reducible repeat (first | refine blk_drewN ?_ _ | refine blk_drew ?_ | refine blk_alloc ?_ _)); exact BK341.out))⟩; have n3_ : Aside0 (Below w.heap.size w w41) := ⟨(by rw [hw]; exact (by repeat (first | (with_reducible first | exact HB.out | apply below_alloc | apply pw_below_drewN | apply below_drew1 | refine below_set ?_ GE341.out) | exact HB.out)))⟩; clear hw; clear HO345; clear HO352; clear BK341; clear HB; have HO345 := n0_; have HO352 := n1_; have BK341 := n2_; have HB := n3_; clear n0_ n1_ n2_ n3_; have hcz42_0 : w41.cell? ⟨gb341, 0, none⟩ = some (.int .i64 a3_0) := (blk_cell BK341.out 0).trans rfl; have hcz42_1 : w41.cell? ⟨gb341, 1, none⟩ = some (.slice Ao39 y350.length co39) := (blk_cell BK341.out 1).trans rfl; have hcz42_2 : w41.cell? ⟨gb341, 2, none⟩ = some (.int .i64 a2) := (blk_cell BK341.out 2).trans rfl; have hcz42_3 : w41.cell? ⟨gb341, 3, none⟩ = some (.int .i64 a3_3) := (blk_cell BK341.out 3).trans rfl; have hcz42_4 : w41.cell? ⟨gb341, 4, none⟩ = some (.int .i64 a3_4) := (blk_cell BK341.out 4).trans rfl; have hfz42_0 := blk_frozen BK341.out 0; have hfz42_1 := blk_frozen BK341.out 1; have hfz42_2 := blk_frozen BK341.out 2; have hfz42_3 := blk_frozen BK341.out 3; have hfz42_4 := blk_frozen BK341.out 4) | ((with_reducible refine gate_builtin (b := .append) (xs := #[.tmp 31, .tmp 33]) rfl ?_); at_builtin; refine Kd.S_append k41 (w0 := w) w.heap.size rfl (.tmp 31) (.tmp 33) 24 41 (.agg #[(.int .i64 0), (.slice none 0 0), (.int .i64 0), (.int .i64 0), (.int .i64 0)]) 56 rfl Tryz.underlying24 info41 rfl (by decide) (by omega) (.slice (some ⟨go10, 0, none⟩) t343.length co10) y346 (⟨a3_0, y350, a2, a3_3, a3_4⟩ : S41) [.int .i64 a3_0, .slice Ao39 y350.length co39, .int .i64 a2, .int .i64 a3_3, .int .i64 a3_4] (fun k_ => k_ ≠ gb341) (fun k_ => some k_ = (.slice Ao39 y350.length co39 : Value).ownBlock) rfl rfl ?aP (fun k_ hk_ => ((Kd.R_mono (ok' := fun k_ => ((fun k_ => k_ ≠ gb341)) k_ ∧ some k_ ≠ (.slice (some ⟨go10, 0, none⟩) t343.length co10 : Value).ownBlock) (Kd.R_types (Kd.R_apart' (HO352.out) (Kd.S_typed HO345.out) (by decide)) BK341.out (by decide)) (fun k_ hk => ⟨hk.2, hk.1.2⟩))).1 k_ hk_.symm) ?aF ?aO ?aB ?aS ?aL ?_; (case aP => exact k41_mkM _ _ _ (⟨a3_0, y350, a2, a3_3, a3_4⟩ : S41) (Kd.R_mono (Kd.R_tight rfl (Kd.R_mono (ok' := fun k_ => ((fun k_ => k_ ≠ gb341)) k_ ∧ some k_ ≠ (.slice (some ⟨go10, 0, none⟩) t343.length co10 : Value).ownBlock) (Kd.R_types (Kd.R_apart' (HO352.out) (Kd.S_typed HO345.out) (by decide)) BK341.out (by decide)) (fun k_ hk => ⟨hk.2, hk.1.2⟩))) (fun _ h_ => h_))); (case aB => exact (by repeat (first | (with_reducible first | exact HB.out | apply below_alloc | apply pw_below_drewN | apply below_drew1 | refine below_set ?_ GE341.out) | exact HB.out))); (case aF => exact (fun k_ hk => Kd.freshB (g := gb341) (o := .cells #[.int .i64 a3_0, .slice Ao39 y350.length co39, .int .i64 a2, .int .i64 a3_3, .int .i64 a3_4] 41 (0, 0)) (by (with_reducible repeat (first | refine blk_drewN ?_ _ | refine blk_drew ?_ | refine blk_alloc ?_ _)); exact BK341.out) k_ hk)); (case aO => exact (by (with_reducible repeat (first | apply Kd.S_alloc | apply Kd.S_drewN | apply Kd.S_drew)); exact Kd.S_mono HO345.out (fun k_ hk => ⟨hk.2, fun e_ => hk.1 e_⟩))); (case aS => exact (below_size (by repeat (first | (with_reducible first | exact HB.out | apply below_alloc | apply pw_below_drewN | apply below_drew1 | refine below_set ?_ GE341.out) | exact HB.out)))); (case aL => have := LMc12.out; omega); intro v354 w43 ho hb hg hat; rw [← Ny353.out] at ho; have n0_ := Aside0.mk (blk_grown (g := gb341) (o := .cells #[.int .i64 a3_0, .slice Ao39 y350.length co39, .int .i64 a2, .int .i64 a3_3, .int .i64 a3_4] 41 (0, 0)) (by (with_reducible repeat (first | refine blk_drewN ?_ _ | refine blk_drew ?_ | refine blk_alloc ?_ _)); exact BK341.out) hg (Kd.S_away HO345.out (fun _ hk => hk.2))); have n1_ := Aside0.mk (hb); have n2_ := Aside0.mk (ho); clear BK341; clear HB; clear HO345; clear HO352; have BK341 := n0_; have HB := n1_; have HO355 := n2_; clear n0_ n1_ n2_; clear ho hb hg hat; obtain ⟨Ao44, co44, eo44⟩ := Kd.S_slice HO355.out; subst eo44) | ((with_reducible refine gate_callee (f := 31) rfl ?_); refine goesL_ (some 36) rfl rfl Tryz.func31 (by kernel_rfl) rfl #[.slice Ao44 y353.length co44] rfl (by (try simp only [List.map_toArray, List.map_cons, List.map_nil]); first | done | rfl | (simp only [List.length_drop, List.length_take]; rfl)) ?_; (with_reducible refine (spec_l05Rules.calls _ _ y353 false _ ?side1 ?side2 A13.out).mono ?_); (case side1 => repeat (first | exact (Kd.S_reads' HO355.out).2.2 | (with_reducible refine Kd.C_alloc ?_ _) | (with_reducible refine Kd.C_drewN ?_ _) | (with_reducible refine Kd.C_drew ?_))); (case side2 => exact (Kd.S_reads' HO355.out).2.1); rintro e w' ⟨rfl, ⟨nd, rfl⟩⟩; refine ⟨_, rfl, ?_⟩))
              go_ret2
              exact ⟨_, by first | rfl | (simp [errW_none, errW_some] <;> rfl) | (simp [*, errW_none, errW_some] <;> rfl), by first | exact Kd.S_nil _ _ _ _ _ | exact Kd.N_nil _ _ _ _ _ | exact Kd.V_nil _ _ _ _ _ | exact Kd.Q_nil _ _ _ _ _ | exact Kd.R_nil _ _ _ _ _, by repeat (first | (with_reducible first | exact HB.out | apply below_alloc | apply pw_below_drewN | apply below_drew1 | refine below_set ?_ GE341.out) | exact HB.out)⟩
          · rw [if_neg c12] at H
            exact absurd H (by simp)
        · rw [if_neg c11] at H
          exact absurd H (by simp)
      · rw [if_neg c9] at H
        exact absurd H (by simp)
    · rw [if_neg c8] at H
      exact absurd H (by simp)
  · replace c6 := Bool.eq_false_iff.mpr c6
    subst c6
    have H1 : (some (([] : List (S41)), false)) = some (r1, r2) := by rw [if_neg (show ¬ (false = true) by decide)] at H; exact H
    clear H
    have H := H1
    clear H1
    simp only [Option.some.injEq, Prod.mk.injEq] at H
    obtain ⟨rfl, rfl⟩ := H
    go_enter Tryz.func17, Tryz.ntmps17
    go_wp2_with (first | ((with_reducible refine gate_dst (N := 7) rfl ?_); refine box_event ?hg (N := 7) ?hd (cs := #[.int .i64 a3_0, .slice A3_1 l3_1.length c3_1, .int .i64 a3_2, .int .i64 a3_3, .int .i64 a3_4]) (t := 41) ?hr ?_; (case hd => rfl); (case hg => rfl); (case hr => first | (go_simp; done) | (go_simp; rfl)); intro gb341 hg w45 hbox hb; have n0_ := Aside0.mk (below_step (by repeat (first | (with_reducible first | exact HB.out | apply below_alloc | apply pw_below_drewN | apply below_drew1) | exact HB.out)) hb); have n1_ := Aside0.mk (hbox); have n2_ := Aside0.mk ((by rw [hg]; exact (below_size (by repeat (first | (with_reducible first | exact HB.out | apply below_alloc | apply pw_below_drewN | apply below_drew1) | exact HB.out))) : w.heap.size ≤ gb341)); have n3_ := Aside0.mk ((by rw [hg]; exact (below_size (by repeat (first | (with_reducible first | exact HB.out | apply below_alloc | apply pw_below_drewN | apply below_drew1) | exact HB.out))) : w.heap.size ≤ gb341)); clear HB; have HB := n0_; have BK341 := n1_; have GW341 := n2_; have GE341 := n3_; clear n0_ n1_ n2_ n3_; clear hb hbox hg) | ((with_reducible refine gate_callee (f := 46) rfl ?_); refine goesL_ (some 14) rfl rfl Tryz.func46 (by kernel_rfl) rfl #[.slice A0 l0.length c0, .int .i64 a1, .int .i64 a2] rfl (by (try simp only [List.map_toArray, List.map_cons, List.map_nil]); first | done | rfl | (simp only [List.length_drop, List.length_take]; rfl)) ?_; (with_reducible refine (spec_l05Ends.calls _ _ l0 a1 a2 false _ ?side1 ?side2 A5.out).mono ?_); (case side1 => repeat (first | exact (Kd.C_below HR0.out HB.out) | (with_reducible refine Kd.C_alloc ?_ _) | (with_reducible refine Kd.C_drewN ?_ _) | (with_reducible refine Kd.C_drew ?_))); (case side2 => exact HC0.out); rintro e w' ⟨rfl, ⟨nd, rfl⟩⟩; refine ⟨_, rfl, ?_⟩))
    go_ret2
    exact ⟨_, by first | rfl | (simp [errW_none, errW_some] <;> rfl) | (simp [*, errW_none, errW_some] <;> rfl), by first | exact Kd.S_nil _ _ _ _ _ | exact Kd.N_nil _ _ _ _ _ | exact Kd.V_nil _ _ _ _ _ | exact Kd.Q_nil _ _ _ _ _ | exact Kd.R_nil _ _ _ _ _, by repeat (first | (with_reducible first | exact HB.out | apply below_alloc | apply pw_below_drewN | apply below_drew1 | refine below_set ?_ GE341.out) | exact HB.out)⟩
/-! ### impl_ended: function 48 -/
def impl_ended.f (k : Nat) (l0 : List (S41)) (a1 : Int) (a2 : Int) : Option ((List (S41)) × Bool) := (impl_AreRules.f l0).bind fun t357 => (if t357 = true then ((impl_isDate.f a2).bind fun t358 => (if t358 = true then ((impl_within.f a1 0 (wrap64 ((l0.length : Int) - 1))).bind fun t359 => (if t359 = true then (if 0 ≤ a1 then (if a1 < (l0.length : Int) then (if a2 ≤ ((rd_T41 l0 a1).f2) then (some (([] : List (S41)), false)) else (if a2 > ((rd_T41 l0 a1).f3) then (some (([] : List (S41)), false)) else ((impl_cloneRules.f k l0).bind fun t362 => (if a1 < (t362.length : Int) then (some ((t362.set (a1 : Int).toNat (⟨(rd_T41 t362 a1).f0, (rd_T41 t362 a1).f1, (rd_T41 t362 a1).f2, wrap64 (a2 - 1), (rd_T41 t362 a1).f4⟩ : S41)), true)) else (none))))) else (none)) else (none)) else (some (([] : List (S41)), false)))) else (some (([] : List (S41)), false)))) else (some (([] : List (S41)), false)))
theorem impl_ended.mono : ∀ a0 a1 a2 k, LeO (impl_ended.f k a0 a1 a2) (impl_ended.f (k + 1) a0 a1 a2) := by
  intro a0 a1 a2 k
  unfold impl_ended.f
  repeat' first
      | (with_reducible exact impl_cloneRules.mono _ _)
      | (with_reducible exact LeO.refl _)
      | (with_reducible exact LeO.none _)
      | (with_reducible refine LeO.ite ?_ ?_)
      | (with_reducible refine LeO.bind ?_ (fun _ => ?_))
      | exact impl_cloneRules.mono _ _
      | exact LeO.none _
      | refine LeO.ite ?_ ?_
      | refine LeO.bind ?_ (fun _ => ?_)
set_option maxHeartbeats 8000000 in
set_option maxRecDepth 100000 in
theorem impl_ended.calls (k : Nat) (A0 : Option Addr) (c0 : Nat) (l0 : List (S41)) (a1 : Int) (a2 : Int) (r1 : List (S41)) (r2 : Bool) (w : World) (hr0 : Kd.C k41 w A0 l0.length l0) (hc0 : l0.length ≤ c0) (h : impl_ended.f k l0 a1 a2 = some (r1, r2)) :
    Calls Tryz.prog 48 #[.slice A0 l0.length c0, .int .i64 a1, .int .i64 a2] w fun e w' => ∃ v0_ : Value, e = .returned (.tuple #[v0_, .bool r2]) ∧ Kd.S k41 41 w' w.heap.size (fun _ => True) v0_ r1 ∧ Below w.heap.size w w' := by
  have HR0 := Aside0.mk hr0
  have HC0 := Aside0.mk hc0
  clear hr0 hc0
  have HB := Aside0.mk (Below.refl w.heap.size w)
  have H : ((impl_AreRules.f l0).bind fun t357 => (if t357 = true then ((impl_isDate.f a2).bind fun t358 => (if t358 = true then ((impl_within.f a1 0 (wrap64 ((l0.length : Int) - 1))).bind fun t359 => (if t359 = true then (if 0 ≤ a1 then (if a1 < (l0.length : Int) then (if a2 ≤ ((rd_T41 l0 a1).f2) then (some (([] : List (S41)), false)) else (if a2 > ((rd_T41 l0 a1).f3) then (some (([] : List (S41)), false)) else ((impl_cloneRules.f k l0).bind fun t362 => (if a1 < (t362.length : Int) then (some ((t362.set (a1 : Int).toNat (⟨(rd_T41 t362 a1).f0, (rd_T41 t362 a1).f1, (rd_T41 t362 a1).f2, wrap64 (a2 - 1), (rd_T41 t362 a1).f4⟩ : S41)), true)) else (none))))) else (none)) else (none)) else (some (([] : List (S41)), false)))) else (some (([] : List (S41)), false)))) else (some (([] : List (S41)), false)))) = some (r1, r2) := h
  clear h
  replace H := Option.bind_eq_some_iff.mp H
  obtain ⟨t357, A40, H⟩ := H
  replace H : (if t357 = true then ((impl_isDate.f a2).bind fun t358 => (if t358 = true then ((impl_within.f a1 0 (wrap64 ((l0.length : Int) - 1))).bind fun t359 => (if t359 = true then (if 0 ≤ a1 then (if a1 < (l0.length : Int) then (if a2 ≤ ((rd_T41 l0 a1).f2) then (some (([] : List (S41)), false)) else (if a2 > ((rd_T41 l0 a1).f3) then (some (([] : List (S41)), false)) else ((impl_cloneRules.f k l0).bind fun t362 => (if a1 < (t362.length : Int) then (some ((t362.set (a1 : Int).toNat (⟨(rd_T41 t362 a1).f0, (rd_T41 t362 a1).f1, (rd_T41 t362 a1).f2, wrap64 (a2 - 1), (rd_T41 t362 a1).f4⟩ : S41)), true)) else (none))))) else (none)) else (none)) else (some (([] : List (S41)), false)))) else (some (([] : List (S41)), false)))) else (some (([] : List (S41)), false))) = some (r1, r2) := H
  have A4 := Aside0.mk A40
  clear A40
  by_cases c5 : t357 = true
  · subst c5
    have H1 : ((impl_isDate.f a2).bind fun t358 => (if t358 = true then ((impl_within.f a1 0 (wrap64 ((l0.length : Int) - 1))).bind fun t359 => (if t359 = true then (if 0 ≤ a1 then (if a1 < (l0.length : Int) then (if a2 ≤ ((rd_T41 l0 a1).f2) then (some (([] : List (S41)), false)) else (if a2 > ((rd_T41 l0 a1).f3) then (some (([] : List (S41)), false)) else ((impl_cloneRules.f k l0).bind fun t362 => (if a1 < (t362.length : Int) then (some ((t362.set (a1 : Int).toNat (⟨(rd_T41 t362 a1).f0, (rd_T41 t362 a1).f1, (rd_T41 t362 a1).f2, wrap64 (a2 - 1), (rd_T41 t362 a1).f4⟩ : S41)), true)) else (none))))) else (none)) else (none)) else (some (([] : List (S41)), false)))) else (some (([] : List (S41)), false)))) = some (r1, r2) := by rw [if_pos rfl] at H; exact H
    clear H
    have H := H1
    clear H1
    replace H := Option.bind_eq_some_iff.mp H
    obtain ⟨t358, A60, H⟩ := H
    replace H : (if t358 = true then ((impl_within.f a1 0 (wrap64 ((l0.length : Int) - 1))).bind fun t359 => (if t359 = true then (if 0 ≤ a1 then (if a1 < (l0.length : Int) then (if a2 ≤ ((rd_T41 l0 a1).f2) then (some (([] : List (S41)), false)) else (if a2 > ((rd_T41 l0 a1).f3) then (some (([] : List (S41)), false)) else ((impl_cloneRules.f k l0).bind fun t362 => (if a1 < (t362.length : Int) then (some ((t362.set (a1 : Int).toNat (⟨(rd_T41 t362 a1).f0, (rd_T41 t362 a1).f1, (rd_T41 t362 a1).f2, wrap64 (a2 - 1), (rd_T41 t362 a1).f4⟩ : S41)), true)) else (none))))) else (none)) else (none)) else (some (([] : List (S41)), false)))) else (some (([] : List (S41)), false))) = some (r1, r2) := H
    have A6 := Aside0.mk A60
    clear A60
    by_cases c7 : t358 = true
    · subst c7
      have H1 : ((impl_within.f a1 0 (wrap64 ((l0.length : Int) - 1))).bind fun t359 => (if t359 = true then (if 0 ≤ a1 then (if a1 < (l0.length : Int) then (if a2 ≤ ((rd_T41 l0 a1).f2) then (some (([] : List (S41)), false)) else (if a2 > ((rd_T41 l0 a1).f3) then (some (([] : List (S41)), false)) else ((impl_cloneRules.f k l0).bind fun t362 => (if a1 < (t362.length : Int) then (some ((t362.set (a1 : Int).toNat (⟨(rd_T41 t362 a1).f0, (rd_T41 t362 a1).f1, (rd_T41 t362 a1).f2, wrap64 (a2 - 1), (rd_T41 t362 a1).f4⟩ : S41)), true)) else (none))))) else (none)) else (none)) else (some (([] : List (S41)), false)))) = some (r1, r2) := by rw [if_pos rfl] at H; exact H
      clear H
      have H := H1
      clear H1
      replace H := Option.bind_eq_some_iff.mp H
      obtain ⟨t359, A80, H⟩ := H
      replace H : (if t359 = true then (if 0 ≤ a1 then (if a1 < (l0.length : Int) then (if a2 ≤ ((rd_T41 l0 a1).f2) then (some (([] : List (S41)), false)) else (if a2 > ((rd_T41 l0 a1).f3) then (some (([] : List (S41)), false)) else ((impl_cloneRules.f k l0).bind fun t362 => (if a1 < (t362.length : Int) then (some ((t362.set (a1 : Int).toNat (⟨(rd_T41 t362 a1).f0, (rd_T41 t362 a1).f1, (rd_T41 t362 a1).f2, wrap64 (a2 - 1), (rd_T41 t362 a1).f4⟩ : S41)), true)) else (none))))) else (none)) else (none)) else (some (([] : List (S41)), false))) = some (r1, r2) := H
      have A8 := Aside0.mk A80
      clear A80
      by_cases c9 : t359 = true
      · subst c9
        have H1 : (if 0 ≤ a1 then (if a1 < (l0.length : Int) then (if a2 ≤ ((rd_T41 l0 a1).f2) then (some (([] : List (S41)), false)) else (if a2 > ((rd_T41 l0 a1).f3) then (some (([] : List (S41)), false)) else ((impl_cloneRules.f k l0).bind fun t362 => (if a1 < (t362.length : Int) then (some ((t362.set (a1 : Int).toNat (⟨(rd_T41 t362 a1).f0, (rd_T41 t362 a1).f1, (rd_T41 t362 a1).f2, wrap64 (a2 - 1), (rd_T41 t362 a1).f4⟩ : S41)), true)) else (none))))) else (none)) else (none)) = some (r1, r2) := by rw [if_pos rfl] at H; exact H
        clear H
        have H := H1
        clear H1
        by_cases c10 : 0 ≤ a1
        · rw [if_pos c10] at H
          have c10b0 : decide (0 ≤ a1) = true := decide_eq_true c10
          clear c10
          by_cases c11 : a1 < (l0.length : Int)
          · rw [if_pos c11] at H
            have c11b0 : decide (a1 < (l0.length : Int)) = true := decide_eq_true c11
            clear c11
            by_cases c12 : a2 ≤ ((rd_T41 l0 a1).f2)
            · rw [if_pos c12] at H
              have c12b0 : decide (a2 ≤ ((rd_T41 l0 a1).f2)) = true := decide_eq_true c12
              clear c12
              simp only [Option.some.injEq, Prod.mk.injEq] at H
              obtain ⟨rfl, rfl⟩ := H
              go_enter Tryz.func48, Tryz.ntmps48
              go_wp2_with (first | ((with_reducible refine gate_callee (f := 29) rfl ?_); refine goesL_ (some 10) rfl rfl Tryz.func29 (by kernel_rfl) rfl #[.slice A0 l0.length c0] rfl (by (try simp only [List.map_toArray, List.map_cons, List.map_nil]); first | done | rfl | (simp only [List.length_drop, List.length_take]; rfl)) ?_; (with_reducible refine (impl_AreRules.calls _ _ l0 true _ ?side1 ?side2 A4.out).mono ?_); (case side1 => repeat (first | exact HR0.out | (with_reducible refine Kd.C_alloc ?_ _) | (with_reducible refine Kd.C_drewN ?_ _) | (with_reducible refine Kd.C_drew ?_))); (case side2 => exact HC0.out); rintro e w13 ⟨rfl, hb⟩; refine ⟨_, rfl, ?_⟩; have n0_ := Aside0.mk (below_step (by repeat (first | (with_reducible first | exact HB.out | apply below_alloc | apply pw_below_drewN | apply below_drew1) | exact HB.out)) hb); clear HB; have HB := n0_; clear n0_; (try clear hb); (try clear hb2); (try clear hk); (try clear hi)) | (go_at_call 36; (with_reducible refine (impl_isDate.calls a2 true _ A6.out).mono ?_); rintro e w' ⟨rfl, ⟨nd, rfl⟩⟩) | (go_at_call 72; (with_reducible refine (impl_within.calls a1 0 (wrap64 ((l0.length : Int) - 1)) true _ A8.out).mono ?_); rintro e w' ⟨rfl, ⟨nd, rfl⟩⟩; have p360 : 0 ≤ (a1 : Int) := of_decide_eq_true (by first | (with_reducible assumption) | assumption); have q360 : a1 < (l0.length : Int) := of_decide_eq_true (by first | (with_reducible assumption) | assumption); obtain ⟨ad360, A360_1, c360_1, e360, hx360_0, hx360_1, hx360_2, hx360_3, hx360_4, hl360_1, hi360_1⟩ := at_T41 HR0.out a1 p360 q360; cases e360; replace hx360_0 := (HB.out.cell (World.block_lt_of_cell? w _ hx360_0)).trans hx360_0; replace hx360_1 := (HB.out.cell (World.block_lt_of_cell? w _ hx360_1)).trans hx360_1; replace hx360_2 := (HB.out.cell (World.block_lt_of_cell? w _ hx360_2)).trans hx360_2; replace hx360_3 := (HB.out.cell (World.block_lt_of_cell? w _ hx360_3)).trans hx360_3; replace hx360_4 := (HB.out.cell (World.block_lt_of_cell? w _ hx360_4)).trans hx360_4; have HR360_1 := Aside0.mk hi360_1; have HC360_1 := Aside0.mk hl360_1; clear hi360_1 hl360_1; replace p360 := eq_true p360; replace q360 := eq_true q360))
              go_ret2
              exact ⟨_, by first | rfl | (simp [errW_none, errW_some] <;> rfl) | (simp [*, errW_none, errW_some] <;> rfl), by first | exact Kd.S_nil _ _ _ _ _ | exact Kd.N_nil _ _ _ _ _ | exact Kd.V_nil _ _ _ _ _ | exact Kd.Q_nil _ _ _ _ _ | exact Kd.R_nil _ _ _ _ _, by repeat (first | (with_reducible first | exact HB.out | apply below_alloc | apply pw_below_drewN | apply below_drew1) | exact HB.out)⟩
            · rw [if_neg c12] at H
              have c12b0 : decide (a2 ≤ ((rd_T41 l0 a1).f2)) = false := decide_eq_false c12
              clear c12
              by_cases c14 : a2 > ((rd_T41 l0 a1).f3)
              · rw [if_pos c14] at H
                have c14b0 : decide (((rd_T41 l0 a1).f3) < a2) = true := decide_eq_true c14
                clear c14
                simp only [Option.some.injEq, Prod.mk.injEq] at H
                obtain ⟨rfl, rfl⟩ := H
                go_enter Tryz.func48, Tryz.ntmps48
                go_wp2_with (first | ((with_reducible refine gate_callee (f := 29) rfl ?_); refine goesL_ (some 10) rfl rfl Tryz.func29 (by kernel_rfl) rfl #[.slice A0 l0.length c0] rfl (by (try simp only [List.map_toArray, List.map_cons, List.map_nil]); first | done | rfl | (simp only [List.length_drop, List.length_take]; rfl)) ?_; (with_reducible refine (impl_AreRules.calls _ _ l0 true _ ?side1 ?side2 A4.out).mono ?_); (case side1 => repeat (first | exact HR0.out | (with_reducible refine Kd.C_alloc ?_ _) | (with_reducible refine Kd.C_drewN ?_ _) | (with_reducible refine Kd.C_drew ?_))); (case side2 => exact HC0.out); rintro e w15 ⟨rfl, hb⟩; refine ⟨_, rfl, ?_⟩; have n0_ := Aside0.mk (below_step (by repeat (first | (with_reducible first | exact HB.out | apply below_alloc | apply pw_below_drewN | apply below_drew1) | exact HB.out)) hb); clear HB; have HB := n0_; clear n0_; (try clear hb); (try clear hb2); (try clear hk); (try clear hi)) | (go_at_call 36; (with_reducible refine (impl_isDate.calls a2 true _ A6.out).mono ?_); rintro e w' ⟨rfl, ⟨nd, rfl⟩⟩) | (go_at_call 72; (with_reducible refine (impl_within.calls a1 0 (wrap64 ((l0.length : Int) - 1)) true _ A8.out).mono ?_); rintro e w' ⟨rfl, ⟨nd, rfl⟩⟩; have p360 : 0 ≤ (a1 : Int) := of_decide_eq_true (by first | (with_reducible assumption) | assumption); have q360 : a1 < (l0.length : Int) := of_decide_eq_true (by first | (with_reducible assumption) | assumption); obtain ⟨ad360, A360_1, c360_1, e360, hx360_0, hx360_1, hx360_2, hx360_3, hx360_4, hl360_1, hi360_1⟩ := at_T41 HR0.out a1 p360 q360; cases e360; replace hx360_0 := (HB.out.cell (World.block_lt_of_cell? w _ hx360_0)).trans hx360_0; replace hx360_1 := (HB.out.cell (World.block_lt_of_cell? w _ hx360_1)).trans hx360_1; replace hx360_2 := (HB.out.cell (World.block_lt_of_cell? w _ hx360_2)).trans hx360_2; replace hx360_3 := (HB.out.cell (World.block_lt_of_cell? w _ hx360_3)).trans hx360_3; replace hx360_4 := (HB.out.cell (World.block_lt_of_cell? w _ hx360_4)).trans hx360_4; have HR360_1 := Aside0.mk hi360_1; have HC360_1 := Aside0.mk hl360_1; clear hi360_1 hl360_1; replace p360 := eq_true p360; replace q360 := eq_true q360; have p361 : 0 ≤ (a1 : Int) := of_decide_eq_true (by first | (with_reducible assumption) | assumption); have q361 : a1 < (l0.length : Int) := of_decide_eq_true (by first | (with_reducible assumption) | assumption); obtain ⟨ad361, A361_1, c361_1, e361, hx361_0, hx361_1, hx361_2, hx361_3, hx361_4, hl361_1, hi361_1⟩ := at_T41 HR0.out a1 p361 q361; obtain rfl : ad360 = ad361 := (by injection e361); replace hx361_0 := (HB.out.cell (World.block_lt_of_cell? w _ hx361_0)).trans hx361_0; replace hx361_1 := (HB.out.cell (World.block_lt_of_cell? w _ hx361_1)).trans hx361_1; replace hx361_2 := (HB.out.cell (World.block_lt_of_cell? w _ hx361_2)).trans hx361_2; replace hx361_3 := (HB.out.cell (World.block_lt_of_cell? w _ hx361_3)).trans hx361_3; replace hx361_4 := (HB.out.cell (World.block_lt_of_cell? w _ hx361_4)).trans hx361_4; have HR361_1 := Aside0.mk hi361_1; have HC361_1 := Aside0.mk hl361_1; clear hi361_1 hl361_1; replace p361 := eq_true p361; replace q361 := eq_true q361; have ea_ := Option.some.inj (hx360_1.symm.trans hx361_1); injection ea_ with ea_ en_ ec_; subst ea_; subst ec_; clear en_))
                go_ret2
                exact ⟨_, by first | rfl | (simp [errW_none, errW_some] <;> rfl) | (simp [*, errW_none, errW_some] <;> rfl), by first | exact Kd.S_nil _ _ _ _ _ | exact Kd.N_nil _ _ _ _ _ | exact Kd.V_nil _ _ _ _ _ | exact Kd.Q_nil _ _ _ _ _ | exact Kd.R_nil _ _ _ _ _, by repeat (first | (with_reducible first | exact HB.out | apply below_alloc | apply pw_below_drewN | apply below_drew1) | exact HB.out)⟩
              · rw [if_neg c14] at H
                have c14b0 : decide (((rd_T41 l0 a1).f3) < a2) = false := decide_eq_false c14
                clear c14
                replace H := Option.bind_eq_some_iff.mp H
                obtain ⟨t362, A160, H⟩ := H
                replace H : (if a1 < (t362.length : Int) then (some ((t362.set (a1 : Int).toNat (⟨(rd_T41 t362 a1).f0, (rd_T41 t362 a1).f1, (rd_T41 t362 a1).f2, wrap64 (a2 - 1), (rd_T41 t362 a1).f4⟩ : S41)), true)) else (none)) = some (r1, r2) := H
                have A16 := Aside0.mk A160
                clear A160
                by_cases c17 : a1 < (t362.length : Int)
                · rw [if_pos c17] at H
                  have c17b0 : decide (a1 < (t362.length : Int)) = true := decide_eq_true c17
                  clear c17
                  obtain ⟨y365, hy365⟩ : ∃ y_ : List (S41), y_ = (t362.set (a1 : Int).toNat (⟨(rd_T41 t362 a1).f0, (rd_T41 t362 a1).f1, (rd_T41 t362 a1).f2, wrap64 (a2 - 1), (rd_T41 t362 a1).f4⟩ : S41)) := ⟨_, rfl⟩
                  replace H : (some (y365, true)) = some (r1, r2) := by first | (rw [hy365]; with_reducible exact H) | (have H2_ := (Option.bind_some _ _).symm.trans H; rw [hy365]; with_reducible exact H2_) | (have H2_ := (Option.bind_some _ _).symm.trans H; with_reducible exact H2_) | with_reducible exact H | (rw [hy365]; exact H) | exact H
                  have Ny365 := Aside0.mk hy365
                  clear hy365
                  simp only [Option.some.injEq, Prod.mk.injEq] at H
                  obtain ⟨rfl, rfl⟩ := H
                  go_enter Tryz.func48, Tryz.ntmps48
                  go_wp2_with (first | ((with_reducible refine gate_callee (f := 29) rfl ?_); refine goesL_ (some 10) rfl rfl Tryz.func29 (by kernel_rfl) rfl #[.slice A0 l0.length c0] rfl (by (try simp only [List.map_toArray, List.map_cons, List.map_nil]); first | done | rfl | (simp only [List.length_drop, List.length_take]; rfl)) ?_; (with_reducible refine (impl_AreRules.calls _ _ l0 true _ ?side1 ?side2 A4.out).mono ?_); (case side1 => repeat (first | exact HR0.out | (with_reducible refine Kd.C_alloc ?_ _) | (with_reducible refine Kd.C_drewN ?_ _) | (with_reducible refine Kd.C_drew ?_))); (case side2 => exact HC0.out); rintro e w19 ⟨rfl, hb⟩; refine ⟨_, rfl, ?_⟩; have n0_ := Aside0.mk (below_step (by repeat (first | (with_reducible first | exact HB.out | apply below_alloc | apply pw_below_drewN | apply below_drew1) | exact HB.out)) hb); clear HB; have HB := n0_; clear n0_; (try clear hb); (try clear hb2); (try clear hk); (try clear hi)) | (go_at_call 36; (with_reducible refine (impl_isDate.calls a2 true _ A6.out).mono ?_); rintro e w' ⟨rfl, ⟨nd, rfl⟩⟩; (try (rw [drewN_self w19]; generalize hq_ : World.drewN w19 _ = w19; have n0_ : Aside0 (Below w.heap.size w w19) := ⟨by rw [← hq_]; exact (by repeat (first | (with_reducible first | exact HB.out | apply below_alloc | apply pw_below_drewN | apply below_drew1) | exact HB.out))⟩; clear HB hq_; have HB := n0_; clear n0_))) | (go_at_call 72; (with_reducible refine (impl_within.calls a1 0 (wrap64 ((l0.length : Int) - 1)) true _ A8.out).mono ?_); rintro e w' ⟨rfl, ⟨nd, rfl⟩⟩; (try (rw [drewN_self w19]; generalize hq_ : World.drewN w19 _ = w19; have n0_ : Aside0 (Below w.heap.size w w19) := ⟨by rw [← hq_]; exact (by repeat (first | (with_reducible first | exact HB.out | apply below_alloc | apply pw_below_drewN | apply below_drew1) | exact HB.out))⟩; clear HB hq_; have HB := n0_; clear n0_)); have p360 : 0 ≤ (a1 : Int) := of_decide_eq_true (by first | (with_reducible assumption) | assumption); have q360 : a1 < (l0.length : Int) := of_decide_eq_true (by first | (with_reducible assumption) | assumption); obtain ⟨ad360, A360_1, c360_1, e360, hx360_0, hx360_1, hx360_2, hx360_3, hx360_4, hl360_1, hi360_1⟩ := at_T41 HR0.out a1 p360 q360; cases e360; replace hx360_0 := (HB.out.cell (World.block_lt_of_cell? w _ hx360_0)).trans hx360_0; replace hx360_1 := (HB.out.cell (World.block_lt_of_cell? w _ hx360_1)).trans hx360_1; replace hx360_2 := (HB.out.cell (World.block_lt_of_cell? w _ hx360_2)).trans hx360_2; replace hx360_3 := (HB.out.cell (World.block_lt_of_cell? w _ hx360_3)).trans hx360_3; replace hx360_4 := (HB.out.cell (World.block_lt_of_cell? w _ hx360_4)).trans hx360_4; have HR360_1 := Aside0.mk hi360_1; have HC360_1 := Aside0.mk hl360_1; clear hi360_1 hl360_1; replace p360 := eq_true p360; replace q360 := eq_true q360; have p361 : 0 ≤ (a1 : Int) := of_decide_eq_true (by first | (with_reducible assumption) | assumption); have q361 : a1 < (l0.length : Int) := of_decide_eq_true (by first | (with_reducible assumption) | assumption); obtain ⟨ad361, A361_1, c361_1, e361, hx361_0, hx361_1, hx361_2, hx361_3, hx361_4, hl361_1, hi361_1⟩ := at_T41 HR0.out a1 p361 q361; obtain rfl : ad360 = ad361 := (by injection e361); replace hx361_0 := (HB.out.cell (World.block_lt_of_cell? w _ hx361_0)).trans hx361_0; replace hx361_1 := (HB.out.cell (World.block_lt_of_cell? w _ hx361_1)).trans hx361_1; replace hx361_2 := (HB.out.cell (World.block_lt_of_cell? w _ hx361_2)).trans hx361_2; replace hx361_3 := (HB.out.cell (World.block_lt_of_cell? w _ hx361_3)).trans hx361_3; replace hx361_4 := (HB.out.cell (World.block_lt_of_cell? w _ hx361_4)).trans hx361_4; have HR361_1 := Aside0.mk hi361_1; have HC361_1 := Aside0.mk hl361_1; clear hi361_1 hl361_1; replace p361 := eq_true p361; replace q361 := eq_true q361; have ea_ := Option.some.inj (hx360_1.symm.trans hx361_1); injection ea_ with ea_ en_ ec_; subst ea_; subst ec_; clear en_) | ((with_reducible refine gate_callee (f := 84) rfl ?_); refine goesL_ (some 44) rfl rfl Tryz.func84 (by kernel_rfl) rfl #[.slice (some ad360) l0.length c0] rfl (by (try simp only [List.map_toArray, List.map_cons, List.map_nil]); first | done | rfl | (simp only [List.length_drop, List.length_take]; rfl)) ?_; (with_reducible refine (impl_cloneRules.calls k _ _ l0 t362 _ ?side1 ?side2 A16.out).mono ?_); (case side1 => repeat (first | exact (Kd.C_below HR0.out HB.out) | (with_reducible refine Kd.C_alloc ?_ _) | (with_reducible refine Kd.C_drewN ?_ _) | (with_reducible refine Kd.C_drew ?_))); (case side2 => exact HC0.out); rintro e w20 ⟨v363, rfl, ho0, hb⟩; refine ⟨_, rfl, ?_⟩; have n0_ := Aside0.mk (Kd.S_lower ho0 (below_size (by repeat (first | (with_reducible first | exact HB.out | apply below_alloc | apply pw_below_drewN | apply below_drew1) | exact HB.out)))); have n1_ := Aside0.mk (below_step (by repeat (first | (with_reducible first | exact HB.out | apply below_alloc | apply pw_below_drewN | apply below_drew1) | exact HB.out)) hb); clear HB; have HO364 := n0_; have HB := n1_; clear n0_ n1_; (try clear hb); (try clear hb2); (try clear hk); (try clear hi); (try clear ho0); have p18 : 0 ≤ (a1 : Int) := of_decide_eq_true (by first | (with_reducible assumption) | assumption); have q18 : (a1 : Int) < ((t362.length : Int) : Int) := of_decide_eq_true (by first | (with_reducible assumption) | assumption); obtain ⟨go18, co18, eo18, gb18, gl18, cl18, HG18⟩ := Kd.S_form HO364.out (by omega); (first | cases eo18 | (injection eo18 with ea_ en_ ec_; (first | subst ea_ | (injection ea_ with ea_; subst ea_)); subst ec_; clear en_)); have GB18 := Aside0.mk gb18; have GG18 := Aside0.mk HG18; clear gb18 gl18 HG18; obtain ⟨_, ce18, hcl18, hM18, hcc18, hfr18, _, _⟩ := Kd.S_elem HO364.out z41 (a1 : Int) p18 q18; obtain ⟨ve18_1, rfl, ge18_1⟩ := k41_openM hM18; have hx18_0 : w20.cell? ⟨go18, (a1 : Int).toNat * 5, none⟩ = some (.int .i64 ((rd_T41 t362 a1).f0)) := hcc18 0 _ rfl; have hx18_1 : w20.cell? ⟨go18, (a1 : Int).toNat * 5 + 1, none⟩ = some (ve18_1) := hcc18 1 _ rfl; have hx18_2 : w20.cell? ⟨go18, (a1 : Int).toNat * 5 + 2, none⟩ = some (.int .i64 ((rd_T41 t362 a1).f2)) := hcc18 2 _ rfl; have hx18_3 : w20.cell? ⟨go18, (a1 : Int).toNat * 5 + 3, none⟩ = some (.int .i64 ((rd_T41 t362 a1).f3)) := hcc18 3 _ rfl; have hx18_4 : w20.cell? ⟨go18, (a1 : Int).toNat * 5 + 4, none⟩ = some (.int .i64 ((rd_T41 t362 a1).f4)) := hcc18 4 _ rfl; have hf18_0 : w20.frozen? ⟨go18, (a1 : Int).toNat * 5, none⟩ = false := hfr18 0; have hf18_1 : w20.frozen? ⟨go18, (a1 : Int).toNat * 5 + 1, none⟩ = false := hfr18 1; have hf18_2 : w20.frozen? ⟨go18, (a1 : Int).toNat * 5 + 2, none⟩ = false := hfr18 2; have hf18_3 : w20.frozen? ⟨go18, (a1 : Int).toNat * 5 + 3, none⟩ = false := hfr18 3; have hf18_4 : w20.frozen? ⟨go18, (a1 : Int).toNat * 5 + 4, none⟩ = false := hfr18 4; clear hcl18 hcc18 hfr18 hM18; replace p18 := eq_true p18; replace q18 := eq_true q18; have HX21 := Aside0.mk (show Kd.S k41 41 w20 w.heap.size (fun k_ => ((fun _ => True)) k_ ∧ ¬ ((fun _ => False)) k_) (.slice (some ⟨go18, 0, none⟩) t362.length co18) t362 from (by (with_reducible repeat (first | apply Kd.S_alloc | apply Kd.S_drewN | apply Kd.S_drew)); exact Kd.S_mono HO364.out (fun k_ hk => ⟨trivial, fun e_ => e_⟩))); obtain ⟨oki21, ce21, hcl21, hM21, hcc21, hfr21, hoki21, hH21⟩ := Kd.S_elem HX21.out z41 (a1 : Int) (of_decide_eq_true (by first | (with_reducible assumption) | assumption)) (by have h_ : (a1 : Int) < ((t362.length : Int) : Int) := of_decide_eq_true (by first | (with_reducible assumption) | assumption); first | exact h_ | (have e_ := (Kd.S_reads' HO364.out).1; omega) | simpa using h_); obtain ⟨ve21_1, rfl, ge21_1⟩ := k41_openM hM21; have HP21 := Kd.S_seg hH21 (of_decide_eq_true (by first | (with_reducible assumption) | assumption)) (by have h_ : (a1 : Int) < ((t362.length : Int) : Int) := of_decide_eq_true (by first | (with_reducible assumption) | assumption); first | exact h_ | (have e_ := (Kd.S_reads' HO364.out).1; omega) | simpa using h_) (seg := [.int .i64 (wrap64 (a2 - 1))]) (j := 3) (show 4 ≤ 5 from by decide) (x' := (⟨(rd_T41 t362 a1).f0, (rd_T41 t362 a1).f1, (rd_T41 t362 a1).f2, wrap64 (a2 - 1), (rd_T41 t362 a1).f4⟩ : S41)) (k41_mkM _ _ _ (⟨(rd_T41 t362 a1).f0, (rd_T41 t362 a1).f1, (rd_T41 t362 a1).f2, wrap64 (a2 - 1), (rd_T41 t362 a1).f4⟩ : S41) (Kd.R_mono ge21_1 (fun _ h_ => Or.inl h_))) (fun _ hk => hk) (fun k_ hk_ => hk_.elim); have hx21_3 := hcc21 3 _ rfl; (try simp only [show (k41).sz = 5 from rfl, Nat.mul_one, Nat.add_zero] at hx21_3); have hf21_3 := hfr21 3; (try simp only [show (k41).sz = 5 from rfl, Nat.mul_one, Nat.add_zero] at hf21_3); clear hcl21 hcc21 hfr21 hM21 hoki21 hH21) | ((with_reducible refine gate_store (t := 2) (p := 50) rfl ?_); refine store_event (t := 2) (p := 50) (v := ?vo_w22) (w1 := (w20.setCell ⟨go18, (a1 : Int).toNat * 5 + 3, none⟩ (.int .i64 (wrap64 (a2 - 1))))) ?hg ?ho ?hn ?hr ?_; (case ho => rfl); (case hg => rfl); (case hn => rfl); (case hr => first | (go_simp; done) | (go_simp; rfl)); intro w22 hw; have hg : w20.grownBy w22 (some go18) := (by rw [hw]; exact HP21.2); have hp_ : Kd.S k41 41 w22 w.heap.size (fun _ => True) (.slice (some ⟨go18, 0, none⟩) t362.length co18) y365 := (by rw [hw, Ny365.out]; exact HP21.1); clear HP21; have n0_ := Aside0.mk (hp_); have n1_ := Aside0.mk ((by rw [hw]; exact below_set (HB.out) GB18.out : Below w.heap.size w w22)); clear HO364; clear HB; have HO364 := n0_; have HB := n1_; clear n0_ n1_; clear hg hw hp_))
                  go_ret2
                  exact ⟨_, by first | rfl | (simp [errW_none, errW_some] <;> rfl) | (simp [*, errW_none, errW_some] <;> rfl), by (with_reducible repeat (first | apply Kd.S_alloc | apply Kd.S_drewN | apply Kd.S_drew)); exact HO364.out, by repeat (first | (with_reducible first | exact HB.out | apply below_alloc | apply pw_below_drewN | apply below_drew1) | exact HB.out)⟩
                · rw [if_neg c17] at H
                  exact absurd H (by simp)
          · rw [if_neg c11] at H
            exact absurd H (by simp)
        · rw [if_neg c10] at H
          exact absurd H (by simp)
      · replace c9 := Bool.eq_false_iff.mpr c9
        subst c9
        have H1 : (some (([] : List (S41)), false)) = some (r1, r2) := by rw [if_neg (show ¬ (false = true) by decide)] at H; exact H
        clear H
        have H := H1
        clear H1
        simp only [Option.some.injEq, Prod.mk.injEq] at H
        obtain ⟨rfl, rfl⟩ := H
        go_enter Tryz.func48, Tryz.ntmps48
        go_wp2_with (first | ((with_reducible refine gate_callee (f := 29) rfl ?_); refine goesL_ (some 10) rfl rfl Tryz.func29 (by kernel_rfl) rfl #[.slice A0 l0.length c0] rfl (by (try simp only [List.map_toArray, List.map_cons, List.map_nil]); first | done | rfl | (simp only [List.length_drop, List.length_take]; rfl)) ?_; (with_reducible refine (impl_AreRules.calls _ _ l0 true _ ?side1 ?side2 A4.out).mono ?_); (case side1 => repeat (first | exact HR0.out | (with_reducible refine Kd.C_alloc ?_ _) | (with_reducible refine Kd.C_drewN ?_ _) | (with_reducible refine Kd.C_drew ?_))); (case side2 => exact HC0.out); rintro e w23 ⟨rfl, hb⟩; refine ⟨_, rfl, ?_⟩; have n0_ := Aside0.mk (below_step (by repeat (first | (with_reducible first | exact HB.out | apply below_alloc | apply pw_below_drewN | apply below_drew1) | exact HB.out)) hb); clear HB; have HB := n0_; clear n0_; (try clear hb); (try clear hb2); (try clear hk); (try clear hi)) | (go_at_call 36; (with_reducible refine (impl_isDate.calls a2 true _ A6.out).mono ?_); rintro e w' ⟨rfl, ⟨nd, rfl⟩⟩) | (go_at_call 72; (with_reducible refine (impl_within.calls a1 0 (wrap64 ((l0.length : Int) - 1)) false _ A8.out).mono ?_); rintro e w' ⟨rfl, ⟨nd, rfl⟩⟩))
        go_ret2
        exact ⟨_, by first | rfl | (simp [errW_none, errW_some] <;> rfl) | (simp [*, errW_none, errW_some] <;> rfl), by first | exact Kd.S_nil _ _ _ _ _ | exact Kd.N_nil _ _ _ _ _ | exact Kd.V_nil _ _ _ _ _ | exact Kd.Q_nil _ _ _ _ _ | exact Kd.R_nil _ _ _ _ _, by repeat (first | (with_reducible first | exact HB.out | apply below_alloc | apply pw_below_drewN | apply below_drew1) | exact HB.out)⟩
    · replace c7 := Bool.eq_false_iff.mpr c7
      subst c7
      have H1 : (some (([] : List (S41)), false)) = some (r1, r2) := by rw [if_neg (show ¬ (false = true) by decide)] at H; exact H
      clear H
      have H := H1
      clear H1
      simp only [Option.some.injEq, Prod.mk.injEq] at H
      obtain ⟨rfl, rfl⟩ := H
      go_enter Tryz.func48, Tryz.ntmps48
      go_wp2_with (first | ((with_reducible refine gate_callee (f := 29) rfl ?_); refine goesL_ (some 10) rfl rfl Tryz.func29 (by kernel_rfl) rfl #[.slice A0 l0.length c0] rfl (by (try simp only [List.map_toArray, List.map_cons, List.map_nil]); first | done | rfl | (simp only [List.length_drop, List.length_take]; rfl)) ?_; (with_reducible refine (impl_AreRules.calls _ _ l0 true _ ?side1 ?side2 A4.out).mono ?_); (case side1 => repeat (first | exact HR0.out | (with_reducible refine Kd.C_alloc ?_ _) | (with_reducible refine Kd.C_drewN ?_ _) | (with_reducible refine Kd.C_drew ?_))); (case side2 => exact HC0.out); rintro e w24 ⟨rfl, hb⟩; refine ⟨_, rfl, ?_⟩; have n0_ := Aside0.mk (below_step (by repeat (first | (with_reducible first | exact HB.out | apply below_alloc | apply pw_below_drewN | apply below_drew1) | exact HB.out)) hb); clear HB; have HB := n0_; clear n0_; (try clear hb); (try clear hb2); (try clear hk); (try clear hi)) | (go_at_call 36; (with_reducible refine (impl_isDate.calls a2 false _ A6.out).mono ?_); rintro e w' ⟨rfl, ⟨nd, rfl⟩⟩))
      go_ret2
      exact ⟨_, by first | rfl | (simp [errW_none, errW_some] <;> rfl) | (simp [*, errW_none, errW_some] <;> rfl), by first | exact Kd.S_nil _ _ _ _ _ | exact Kd.N_nil _ _ _ _ _ | exact Kd.V_nil _ _ _ _ _ | exact Kd.Q_nil _ _ _ _ _ | exact Kd.R_nil _ _ _ _ _, by repeat (first | (with_reducible first | exact HB.out | apply below_alloc | apply pw_below_drewN | apply below_drew1) | exact HB.out)⟩
  · replace c5 := Bool.eq_false_iff.mpr c5
    subst c5
    have H1 : (some (([] : List (S41)), false)) = some (r1, r2) := by rw [if_neg (show ¬ (false = true) by decide)] at H; exact H
    clear H
    have H := H1
    clear H1
    simp only [Option.some.injEq, Prod.mk.injEq] at H
    obtain ⟨rfl, rfl⟩ := H
    go_enter Tryz.func48, Tryz.ntmps48
    go_wp2_with (first | ((with_reducible refine gate_callee (f := 29) rfl ?_); refine goesL_ (some 10) rfl rfl Tryz.func29 (by kernel_rfl) rfl #[.slice A0 l0.length c0] rfl (by (try simp only [List.map_toArray, List.map_cons, List.map_nil]); first | done | rfl | (simp only [List.length_drop, List.length_take]; rfl)) ?_; (with_reducible refine (impl_AreRules.calls _ _ l0 false _ ?side1 ?side2 A4.out).mono ?_); (case side1 => repeat (first | exact HR0.out | (with_reducible refine Kd.C_alloc ?_ _) | (with_reducible refine Kd.C_drewN ?_ _) | (with_reducible refine Kd.C_drew ?_))); (case side2 => exact HC0.out); rintro e w25 ⟨rfl, hb⟩; refine ⟨_, rfl, ?_⟩; have n0_ := Aside0.mk (below_step (by repeat (first | (with_reducible first | exact HB.out | apply below_alloc | apply pw_below_drewN | apply below_drew1) | exact HB.out)) hb); clear HB; have HB := n0_; clear n0_; (try clear hb); (try clear hb2); (try clear hk); (try clear hi)))
    go_ret2
    exact ⟨_, by first | rfl | (simp [errW_none, errW_some] <;> rfl) | (simp [*, errW_none, errW_some] <;> rfl), by first | exact Kd.S_nil _ _ _ _ _ | exact Kd.N_nil _ _ _ _ _ | exact Kd.V_nil _ _ _ _ _ | exact Kd.Q_nil _ _ _ _ _ | exact Kd.R_nil _ _ _ _ _, by repeat (first | (with_reducible first | exact HB.out | apply below_alloc | apply pw_below_drewN | apply below_drew1) | exact HB.out)⟩
/-! ### impl_AmendRule: function 18 -/
def impl_AmendRule.f (k : Nat) (l0 : List (S41)) (a1 : Int) (a2 : Int) (a3_0 : Int) (l3_1 : List Int) (a3_2 : Int) (a3_3 : Int) (a3_4 : Int) : Option ((List (S41)) × Bool) := (impl_ended.f k l0 a1 a2).bind fun bt367 => (if bt367.2 = true then ((impl_ValidRule.f k a3_0 l3_1 a2 a3_3 a3_4).bind fun t371 => (if t371 = true then (if (bt367.1.length : Int) = 24 then (some (([] : List (S41)), false)) else ((impl_cloneRule.f a3_0 l3_1 a2 a3_3 a3_4).bind fun bt372 => (if bt367.1.length < 2513169434916 then (some ((bt367.1 ++ [(⟨bt372.1, bt372.2.1, bt372.2.2.1, bt372.2.2.2.1, bt372.2.2.2.2⟩ : S41)]), true)) else (none)))) else (some (([] : List (S41)), false)))) else (some (([] : List (S41)), false)))
theorem impl_AmendRule.mono : ∀ a0 a1 a2 a3 a4 a5 a6 a7 k, LeO (impl_AmendRule.f k a0 a1 a2 a3 a4 a5 a6 a7) (impl_AmendRule.f (k + 1) a0 a1 a2 a3 a4 a5 a6 a7) := by
  intro a0 a1 a2 a3 a4 a5 a6 a7 k
  unfold impl_AmendRule.f
  repeat' first
      | (with_reducible exact impl_ValidRule.mono _ _ _ _ _ _)
      | (with_reducible exact impl_ended.mono _ _ _ _)
      | (with_reducible exact LeO.refl _)
      | (with_reducible exact LeO.none _)
      | (with_reducible refine LeO.ite ?_ ?_)
      | (with_reducible refine LeO.bind ?_ (fun _ => ?_))
      | exact impl_ValidRule.mono _ _ _ _ _ _
      | exact impl_ended.mono _ _ _ _
      | exact LeO.none _
      | refine LeO.ite ?_ ?_
      | refine LeO.bind ?_ (fun _ => ?_)
set_option maxHeartbeats 8000000 in
set_option maxRecDepth 100000 in
theorem impl_AmendRule.calls (k : Nat) (A0 : Option Addr) (c0 : Nat) (l0 : List (S41)) (a1 : Int) (a2 : Int) (a3_0 : Int) (A3_1 : Option Addr) (c3_1 : Nat) (l3_1 : List Int) (a3_2 : Int) (a3_3 : Int) (a3_4 : Int) (r1 : List (S41)) (r2 : Bool) (w : World) (hr0 : Kd.C k41 w A0 l0.length l0) (hc0 : l0.length ≤ c0) (hr3_1 : Kd.C (Kd.int .i64) w A3_1 l3_1.length l3_1) (hc3_1 : l3_1.length ≤ c3_1) (h : impl_AmendRule.f k l0 a1 a2 a3_0 l3_1 a3_2 a3_3 a3_4 = some (r1, r2)) :
    Calls Tryz.prog 18 #[.slice A0 l0.length c0, .int .i64 a1, .int .i64 a2, .agg #[.int .i64 a3_0, .slice A3_1 l3_1.length c3_1, .int .i64 a3_2, .int .i64 a3_3, .int .i64 a3_4]] w fun e w' => ∃ v0_ : Value, e = .returned (.tuple #[v0_, .bool r2]) ∧ Kd.S k41 41 w' w.heap.size (fun _ => True) v0_ r1 ∧ Below w.heap.size w w' := by
  have hu41 := Tryz.underlying41
  have HR0 := Aside0.mk hr0
  have HC0 := Aside0.mk hc0
  clear hr0 hc0
  have HR3_1 := Aside0.mk hr3_1
  have HC3_1 := Aside0.mk hc3_1
  clear hr3_1 hc3_1
  have HB := Aside0.mk (Below.refl w.heap.size w)
  have H : ((impl_ended.f k l0 a1 a2).bind fun bt367 => (if bt367.2 = true then ((impl_ValidRule.f k a3_0 l3_1 a2 a3_3 a3_4).bind fun t371 => (if t371 = true then (if (bt367.1.length : Int) = 24 then (some (([] : List (S41)), false)) else ((impl_cloneRule.f a3_0 l3_1 a2 a3_3 a3_4).bind fun bt372 => (if bt367.1.length < 2513169434916 then (some ((bt367.1 ++ [(⟨bt372.1, bt372.2.1, bt372.2.2.1, bt372.2.2.2.1, bt372.2.2.2.2⟩ : S41)]), true)) else (none)))) else (some (([] : List (S41)), false)))) else (some (([] : List (S41)), false)))) = some (r1, r2) := h
  clear h
  replace H := Option.bind_eq_some_iff.mp H
  obtain ⟨⟨t367, t368⟩, A50, H⟩ := H
  replace H : (if t368 = true then ((impl_ValidRule.f k a3_0 l3_1 a2 a3_3 a3_4).bind fun t371 => (if t371 = true then (if (t367.length : Int) = 24 then (some (([] : List (S41)), false)) else ((impl_cloneRule.f a3_0 l3_1 a2 a3_3 a3_4).bind fun bt372 => (if t367.length < 2513169434916 then (some ((t367 ++ [(⟨bt372.1, bt372.2.1, bt372.2.2.1, bt372.2.2.2.1, bt372.2.2.2.2⟩ : S41)]), true)) else (none)))) else (some (([] : List (S41)), false)))) else (some (([] : List (S41)), false))) = some (r1, r2) := H
  have A5 := Aside0.mk A50
  clear A50
  by_cases c6 : t368 = true
  · subst c6
    have H1 : ((impl_ValidRule.f k a3_0 l3_1 a2 a3_3 a3_4).bind fun t371 => (if t371 = true then (if (t367.length : Int) = 24 then (some (([] : List (S41)), false)) else ((impl_cloneRule.f a3_0 l3_1 a2 a3_3 a3_4).bind fun bt372 => (if t367.length < 2513169434916 then (some ((t367 ++ [(⟨bt372.1, bt372.2.1, bt372.2.2.1, bt372.2.2.2.1, bt372.2.2.2.2⟩ : S41)]), true)) else (none)))) else (some (([] : List (S41)), false)))) = some (r1, r2) := by rw [if_pos rfl] at H; exact H
    clear H
    have H := H1
    clear H1
    replace H := Option.bind_eq_some_iff.mp H
    obtain ⟨t371, A70, H⟩ := H
    replace H : (if t371 = true then (if (t367.length : Int) = 24 then (some (([] : List (S41)), false)) else ((impl_cloneRule.f a3_0 l3_1 a2 a3_3 a3_4).bind fun bt372 => (if t367.length < 2513169434916 then (some ((t367 ++ [(⟨bt372.1, bt372.2.1, bt372.2.2.1, bt372.2.2.2.1, bt372.2.2.2.2⟩ : S41)]), true)) else (none)))) else (some (([] : List (S41)), false))) = some (r1, r2) := H
    have A7 := Aside0.mk A70
    clear A70
    by_cases c8 : t371 = true
    · subst c8
      have H1 : (if (t367.length : Int) = 24 then (some (([] : List (S41)), false)) else ((impl_cloneRule.f a3_0 l3_1 a2 a3_3 a3_4).bind fun bt372 => (if t367.length < 2513169434916 then (some ((t367 ++ [(⟨bt372.1, bt372.2.1, bt372.2.2.1, bt372.2.2.2.1, bt372.2.2.2.2⟩ : S41)]), true)) else (none)))) = some (r1, r2) := by rw [if_pos rfl] at H; exact H
      clear H
      have H := H1
      clear H1
      by_cases c9 : (t367.length : Int) = 24
      · rw [if_pos c9] at H
        have c9b0 : ((t367.length : Int) == 24) = true := beq_iff_eq.mpr c9
        have c9b1 : ((t367.length : Int) != 24) = false := bne_eq_false_iff_eq.mpr c9
        clear c9
        simp only [Option.some.injEq, Prod.mk.injEq] at H
        obtain ⟨rfl, rfl⟩ := H
        go_enter Tryz.func18, Tryz.ntmps18
        go_wp2_with (first | ((with_reducible refine gate_dst (N := 7) rfl ?_); (try (refine gate_guard (by rfl) ?_; dsimp only)); refine box_event ?hg (N := 7) ?hd (cs := #[.int .i64 a3_0, .slice A3_1 l3_1.length c3_1, .int .i64 a3_2, .int .i64 a3_3, .int .i64 a3_4]) (t := 41) ?hr ?_; (case hd => rfl); (case hg => rfl); (case hr => first | (go_simp; done) | (go_simp; rfl)); intro gb366 hg w10 hbox hb; have n0_ := Aside0.mk (below_step (by repeat (first | (with_reducible first | exact HB.out | apply below_alloc | apply pw_below_drewN | apply below_drew1) | exact HB.out)) hb); have n1_ := Aside0.mk (hbox); have n2_ := Aside0.mk ((by rw [hg]; exact (below_size (by repeat (first | (with_reducible first | exact HB.out | apply below_alloc | apply pw_below_drewN | apply below_drew1) | exact HB.out))) : w.heap.size ≤ gb366)); have n3_ := Aside0.mk ((by rw [hg]; exact (below_size (by repeat (first | (with_reducible first | exact HB.out | apply below_alloc | apply pw_below_drewN | apply below_drew1) | exact HB.out))) : w.heap.size ≤ gb366)); clear HB; have HB := n0_; have BK366 := n1_; have GW366 := n2_; have GE366 := n3_; clear n0_ n1_ n2_ n3_; clear hb hbox hg) | ((with_reducible refine gate_callee (f := 48) rfl ?_); refine goesL_ (some 16) rfl rfl Tryz.func48 (by kernel_rfl) rfl #[.slice A0 l0.length c0, .int .i64 a1, .int .i64 a2] rfl (by (try simp only [List.map_toArray, List.map_cons, List.map_nil]); first | done | rfl | (simp only [List.length_drop, List.length_take]; rfl)) ?_; (with_reducible refine (impl_ended.calls k _ _ l0 a1 a2 t367 true _ ?side1 ?side2 A5.out).mono ?_); (case side1 => repeat (first | exact (Kd.C_below HR0.out HB.out) | (with_reducible refine Kd.C_alloc ?_ _) | (with_reducible refine Kd.C_drewN ?_ _) | (with_reducible refine Kd.C_drew ?_))); (case side2 => exact HC0.out); rintro e w11 ⟨v369, rfl, ho0, hb⟩; refine ⟨_, rfl, ?_⟩; have n0_ := Aside0.mk (Kd.S_lower (Kd.S_newB ho0 (g := gb366) (o := .cells #[.int .i64 a3_0, .slice A3_1 l3_1.length c3_1, .int .i64 a3_2, .int .i64 a3_3, .int .i64 a3_4] 41 (0, 0)) (by (with_reducible repeat (first | refine blk_drewN ?_ _ | refine blk_drew ?_ | refine blk_alloc ?_ _)); exact BK366.out)) (below_size (by repeat (first | (with_reducible first | exact HB.out | apply below_alloc | apply pw_below_drewN | apply below_drew1 | refine below_set ?_ GE366.out) | exact HB.out)))); have n1_ := Aside0.mk (blk_below (g := gb366) (o := .cells #[.int .i64 a3_0, .slice A3_1 l3_1.length c3_1, .int .i64 a3_2, .int .i64 a3_3, .int .i64 a3_4] 41 (0, 0)) (by (with_reducible repeat (first | refine blk_drewN ?_ _ | refine blk_drew ?_ | refine blk_alloc ?_ _)); exact BK366.out) hb); have n2_ := Aside0.mk (below_step (by repeat (first | (with_reducible first | exact HB.out | apply below_alloc | apply pw_below_drewN | apply below_drew1 | refine below_set ?_ GE366.out) | exact HB.out)) hb); clear BK366; clear HB; have HO370 := n0_; have BK366 := n1_; have HB := n2_; clear n0_ n1_ n2_; (try clear hb); (try clear hb2); (try clear hk); (try clear hi); (try clear ho0); have hcz12_0 : w11.cell? ⟨gb366, 0, none⟩ = some (.int .i64 a3_0) := (blk_cell BK366.out 0).trans rfl; have hcz12_1 : w11.cell? ⟨gb366, 1, none⟩ = some (.slice A3_1 l3_1.length c3_1) := (blk_cell BK366.out 1).trans rfl; have hcz12_2 : w11.cell? ⟨gb366, 2, none⟩ = some (.int .i64 a3_2) := (blk_cell BK366.out 2).trans rfl; have hcz12_3 : w11.cell? ⟨gb366, 3, none⟩ = some (.int .i64 a3_3) := (blk_cell BK366.out 3).trans rfl; have hcz12_4 : w11.cell? ⟨gb366, 4, none⟩ = some (.int .i64 a3_4) := (blk_cell BK366.out 4).trans rfl; have hfz12_0 := blk_frozen BK366.out 0; have hfz12_1 := blk_frozen BK366.out 1; have hfz12_2 := blk_frozen BK366.out 2; have hfz12_3 := blk_frozen BK366.out 3; have hfz12_4 := blk_frozen BK366.out 4) | (go_at_call 49; (with_reducible refine (impl_ValidRule.calls k a3_0 _ _ l3_1 a2 a3_3 a3_4 true _ ?side1 ?side2 A7.out).mono ?_); (case side1 => exact Kd.C_below HR3_1.out (by repeat (first | (with_reducible first | exact HB.out | apply below_alloc | apply pw_below_drewN | apply below_drew1 | refine below_set ?_ GE366.out) | exact HB.out))); (case side2 => exact HC3_1.out); rintro e w13 ⟨rfl, hb⟩; have n0_ := Aside0.mk (Kd.S_below (by (with_reducible repeat (first | apply Kd.S_alloc | apply Kd.S_drewN | apply Kd.S_drew)); exact (Kd.S_mono (Kd.S_far (p := ⟨gb366, 2, none⟩) (Kd.S_mono HO370.out (fun k_ hk => (⟨hk, hk.2⟩ : _ ∧ k_ ≠ gb366))) (fun _ hk => hk.2) (.int .i64 a2)) (fun _ h_ => h_.1))) hb); have n1_ := Aside0.mk (blk_below (g := gb366) (o := .cells #[.int .i64 a3_0, .slice A3_1 l3_1.length c3_1, .int .i64 a2, .int .i64 a3_3, .int .i64 a3_4] 41 (0, 0)) (by (with_reducible repeat (first | refine blk_drewN ?_ _ | refine blk_drew ?_ | refine blk_alloc ?_ _)); refine blk_put (cs := #[.int .i64 a3_0, .slice A3_1 l3_1.length c3_1, .int .i64 a3_2, .int .i64 a3_3, .int .i64 a3_4]) ?_ 2 _ rfl; (with_reducible repeat (first | refine blk_drewN ?_ _ | refine blk_drew ?_ | refine blk_alloc ?_ _)); exact BK366.out) hb); have n2_ := Aside0.mk (below_step (by repeat (first | (with_reducible first | exact HB.out | apply below_alloc | apply pw_below_drewN | apply below_drew1 | refine below_set ?_ GE366.out) | exact HB.out)) hb); clear HO370; clear BK366; clear HB; have HO370 := n0_; have BK366 := n1_; have HB := n2_; clear n0_ n1_ n2_; (try clear hb); (try clear hb2); (try clear hk); (try clear hi); obtain ⟨Ao14, co14, eo14⟩ := Kd.S_slice HO370.out; subst eo14))
        go_ret2
        exact ⟨_, by first | rfl | (simp [errW_none, errW_some] <;> rfl) | (simp [*, errW_none, errW_some] <;> rfl), by first | exact Kd.S_nil _ _ _ _ _ | exact Kd.N_nil _ _ _ _ _ | exact Kd.V_nil _ _ _ _ _ | exact Kd.Q_nil _ _ _ _ _ | exact Kd.R_nil _ _ _ _ _, by repeat (first | (with_reducible first | exact HB.out | apply below_alloc | apply pw_below_drewN | apply below_drew1 | refine below_set ?_ GE366.out) | exact HB.out)⟩
      · rw [if_neg c9] at H
        have c9b0 : ((t367.length : Int) == 24) = false := beq_eq_false_iff_ne.mpr c9
        have c9b1 : ((t367.length : Int) != 24) = true := bne_iff_ne.mpr c9
        replace H := Option.bind_eq_some_iff.mp H
        obtain ⟨⟨t372, t373, t376, t377, t378⟩, A150, H⟩ := H
        replace H : (if t367.length < 2513169434916 then (some ((t367 ++ [(⟨t372, t373, t376, t377, t378⟩ : S41)]), true)) else (none)) = some (r1, r2) := H
        have A15 := Aside0.mk A150
        clear A150
        by_cases c16 : t367.length < 2513169434916
        · rw [if_pos c16] at H
          have LMc16 := Aside0.mk c16
          clear c16
          obtain ⟨y379, hy379⟩ : ∃ y_ : List (S41), y_ = (t367 ++ [(⟨t372, t373, t376, t377, t378⟩ : S41)]) := ⟨_, rfl⟩
          replace H : (some (y379, true)) = some (r1, r2) := by first | (rw [hy379]; with_reducible exact H) | (have H2_ := (Option.bind_some _ _).symm.trans H; rw [hy379]; with_reducible exact H2_) | (have H2_ := (Option.bind_some _ _).symm.trans H; with_reducible exact H2_) | with_reducible exact H | (rw [hy379]; exact H) | exact H
          have Ny379 := Aside0.mk hy379
          clear hy379
          simp only [Option.some.injEq, Prod.mk.injEq] at H
          obtain ⟨rfl, rfl⟩ := H
          go_enter Tryz.func18, Tryz.ntmps18
          go_wp2_with (first | ((with_reducible refine gate_dst (N := 7) rfl ?_); (try (refine gate_guard (by rfl) ?_; dsimp only)); refine box_event ?hg (N := 7) ?hd (cs := #[.int .i64 a3_0, .slice A3_1 l3_1.length c3_1, .int .i64 a3_2, .int .i64 a3_3, .int .i64 a3_4]) (t := 41) ?hr ?_; (case hd => rfl); (case hg => rfl); (case hr => first | (go_simp; done) | (go_simp; rfl)); intro gb366 hg w17 hbox hb; have n0_ := Aside0.mk (below_step (by repeat (first | (with_reducible first | exact HB.out | apply below_alloc | apply pw_below_drewN | apply below_drew1) | exact HB.out)) hb); have n1_ := Aside0.mk (hbox); have n2_ := Aside0.mk ((by rw [hg]; exact (below_size (by repeat (first | (with_reducible first | exact HB.out | apply below_alloc | apply pw_below_drewN | apply below_drew1) | exact HB.out))) : w.heap.size ≤ gb366)); have n3_ := Aside0.mk ((by rw [hg]; exact (below_size (by repeat (first | (with_reducible first | exact HB.out | apply below_alloc | apply pw_below_drewN | apply below_drew1) | exact HB.out))) : w.heap.size ≤ gb366)); clear HB; have HB := n0_; have BK366 := n1_; have GW366 := n2_; have GE366 := n3_; clear n0_ n1_ n2_ n3_; clear hb hbox hg) | ((with_reducible refine gate_callee (f := 48) rfl ?_); refine goesL_ (some 16) rfl rfl Tryz.func48 (by kernel_rfl) rfl #[.slice A0 l0.length c0, .int .i64 a1, .int .i64 a2] rfl (by (try simp only [List.map_toArray, List.map_cons, List.map_nil]); first | done | rfl | (simp only [List.length_drop, List.length_take]; rfl)) ?_; (with_reducible refine (impl_ended.calls k _ _ l0 a1 a2 t367 true _ ?side1 ?side2 A5.out).mono ?_); (case side1 => repeat (first | exact (Kd.C_below HR0.out HB.out) | (with_reducible refine Kd.C_alloc ?_ _) | (with_reducible refine Kd.C_drewN ?_ _) | (with_reducible refine Kd.C_drew ?_))); (case side2 => exact HC0.out); rintro e w18 ⟨v369, rfl, ho0, hb⟩; refine ⟨_, rfl, ?_⟩; have n0_ := Aside0.mk (Kd.S_lower (Kd.S_newB ho0 (g := gb366) (o := .cells #[.int .i64 a3_0, .slice A3_1 l3_1.length c3_1, .int .i64 a3_2, .int .i64 a3_3, .int .i64 a3_4] 41 (0, 0)) (by (with_reducible repeat (first | refine blk_drewN ?_ _ | refine blk_drew ?_ | refine blk_alloc ?_ _)); exact BK366.out)) (below_size (by repeat (first | (with_reducible first | exact HB.out | apply below_alloc | apply pw_below_drewN | apply below_drew1 | refine below_set ?_ GE366.out) | exact HB.out)))); have n1_ := Aside0.mk (blk_below (g := gb366) (o := .cells #[.int .i64 a3_0, .slice A3_1 l3_1.length c3_1, .int .i64 a3_2, .int .i64 a3_3, .int .i64 a3_4] 41 (0, 0)) (by (with_reducible repeat (first | refine blk_drewN ?_ _ | refine blk_drew ?_ | refine blk_alloc ?_ _)); exact BK366.out) hb); have n2_ := Aside0.mk (below_step (by repeat (first | (with_reducible first | exact HB.out | apply below_alloc | apply pw_below_drewN | apply below_drew1 | refine below_set ?_ GE366.out) | exact HB.out)) hb); clear BK366; clear HB; have HO370 := n0_; have BK366 := n1_; have HB := n2_; clear n0_ n1_ n2_; (try clear hb); (try clear hb2); (try clear hk); (try clear hi); (try clear ho0); have hcz19_0 : w18.cell? ⟨gb366, 0, none⟩ = some (.int .i64 a3_0) := (blk_cell BK366.out 0).trans rfl; have hcz19_1 : w18.cell? ⟨gb366, 1, none⟩ = some (.slice A3_1 l3_1.length c3_1) := (blk_cell BK366.out 1).trans rfl; have hcz19_2 : w18.cell? ⟨gb366, 2, none⟩ = some (.int .i64 a3_2) := (blk_cell BK366.out 2).trans rfl; have hcz19_3 : w18.cell? ⟨gb366, 3, none⟩ = some (.int .i64 a3_3) := (blk_cell BK366.out 3).trans rfl; have hcz19_4 : w18.cell? ⟨gb366, 4, none⟩ = some (.int .i64 a3_4) := (blk_cell BK366.out 4).trans rfl; have hfz19_0 := blk_frozen BK366.out 0; have hfz19_1 := blk_frozen BK366.out 1; have hfz19_2 := blk_frozen BK366.out 2; have hfz19_3 := blk_frozen BK366.out 3; have hfz19_4 := blk_frozen BK366.out 4) | (go_at_call 49; (with_reducible refine (impl_ValidRule.calls k a3_0 _ _ l3_1 a2 a3_3 a3_4 true _ ?side1 ?side2 A7.out).mono ?_); (case side1 => exact Kd.C_below HR3_1.out (by repeat (first | (with_reducible first | exact HB.out | apply below_alloc | apply pw_below_drewN | apply below_drew1 | refine below_set ?_ GE366.out) | exact HB.out))); (case side2 => exact HC3_1.out); rintro e w20 ⟨rfl, hb⟩; have n0_ := Aside0.mk (Kd.S_below (by (with_reducible repeat (first | apply Kd.S_alloc | apply Kd.S_drewN | apply Kd.S_drew)); exact (Kd.S_mono (Kd.S_far (p := ⟨gb366, 2, none⟩) (Kd.S_mono HO370.out (fun k_ hk => (⟨hk, hk.2⟩ : _ ∧ k_ ≠ gb366))) (fun _ hk => hk.2) (.int .i64 a2)) (fun _ h_ => h_.1))) hb); have n1_ := Aside0.mk (blk_below (g := gb366) (o := .cells #[.int .i64 a3_0, .slice A3_1 l3_1.length c3_1, .int .i64 a2, .int .i64 a3_3, .int .i64 a3_4] 41 (0, 0)) (by (with_reducible repeat (first | refine blk_drewN ?_ _ | refine blk_drew ?_ | refine blk_alloc ?_ _)); refine blk_put (cs := #[.int .i64 a3_0, .slice A3_1 l3_1.length c3_1, .int .i64 a3_2, .int .i64 a3_3, .int .i64 a3_4]) ?_ 2 _ rfl; (with_reducible repeat (first | refine blk_drewN ?_ _ | refine blk_drew ?_ | refine blk_alloc ?_ _)); exact BK366.out) hb); have n2_ := Aside0.mk (below_step (by repeat (first | (with_reducible first | exact HB.out | apply below_alloc | apply pw_below_drewN | apply below_drew1 | refine below_set ?_ GE366.out) | exact HB.out)) hb); clear HO370; clear BK366; clear HB; have HO370 := n0_; have BK366 := n1_; have HB := n2_; clear n0_ n1_ n2_; (try clear hb); (try clear hb2); (try clear hk); (try clear hi); obtain ⟨Ao21, co21, eo21⟩ := Kd.S_slice HO370.out; subst eo21; have hcz22_0 : w20.cell? ⟨gb366, 0, none⟩ = some (.int .i64 a3_0) := (blk_cell BK366.out 0).trans rfl; have hcz22_1 : w20.cell? ⟨gb366, 1, none⟩ = some (.slice A3_1 l3_1.length c3_1) := (blk_cell BK366.out 1).trans rfl; have hcz22_2 : w20.cell? ⟨gb366, 2, none⟩ = some (.int .i64 a2) := (blk_cell BK366.out 2).trans rfl; have hcz22_3 : w20.cell? ⟨gb366, 3, none⟩ = some (.int .i64 a3_3) := (blk_cell BK366.out 3).trans rfl; have hcz22_4 : w20.cell? ⟨gb366, 4, none⟩ = some (.int .i64 a3_4) := (blk_cell BK366.out 4).trans rfl; have hfz22_0 := blk_frozen BK366.out 0; have hfz22_1 := blk_frozen BK366.out 1; have hfz22_2 := blk_frozen BK366.out 2; have hfz22_3 := blk_frozen BK366.out 3; have hfz22_4 := blk_frozen BK366.out 4) | ((with_reducible refine gate_callee (f := 45) rfl ?_); refine goesL_ (some 35) rfl rfl Tryz.func45 (by kernel_rfl) rfl #[.agg #[.int .i64 a3_0, .slice A3_1 l3_1.length c3_1, .int .i64 a2, .int .i64 a3_3, .int .i64 a3_4]] rfl (by (try simp only [List.map_toArray, List.map_cons, List.map_nil]); first | done | rfl | (simp only [List.length_drop, List.length_take]; rfl)) ?_; (with_reducible refine (impl_cloneRule.calls a3_0 _ _ l3_1 a2 a3_3 a3_4 t372 t373 t376 t377 t378 _ ?side1 ?side2 A15.out).mono ?_); (case side1 => repeat (first | exact (Kd.C_below HR3_1.out HB.out) | (with_reducible refine Kd.C_alloc ?_ _) | (with_reducible refine Kd.C_drewN ?_ _) | (with_reducible refine Kd.C_drew ?_))); (case side2 => exact HC3_1.out); rintro e w23 ⟨v374, rfl, ho0, hb⟩; refine ⟨_, rfl, ?_⟩; have n0_ := Aside0.mk (Kd.S_elder' (by (with_reducible repeat (first | apply Kd.S_alloc | apply Kd.S_drewN | apply Kd.S_drew)); exact HO370.out) (Kd.R_base ho0) hb); have n1_ := Aside0.mk (Kd.R_lower ho0 (below_size (by repeat (first | (with_reducible first | exact HB.out | apply below_alloc | apply pw_below_drewN | apply below_drew1 | refine below_set ?_ GE366.out) | exact HB.out)))); have n2_ := Aside0.mk (blk_below (g := gb366) (o := .cells #[.int .i64 a3_0, .slice A3_1 l3_1.length c3_1, .int .i64 a2, .int .i64 a3_3, .int .i64 a3_4] 41 (0, 0)) (by (with_reducible repeat (first | refine blk_drewN ?_ _ | refine blk_drew ?_ | refine blk_alloc ?_ _)); exact BK366.out) hb); have n3_ := Aside0.mk (below_step (by repeat (first | (with_reducible first | exact HB.out | apply below_alloc | apply pw_below_drewN | apply below_drew1 | refine below_set ?_ GE366.out) | exact HB.out)) hb); clear HO370; clear BK366; clear HB; have HO370 := n0_; have HO375 := n1_; have BK366 := n2_; have HB := n3_; clear n0_ n1_ n2_ n3_; (try clear hb); (try clear hb2); (try clear hk); (try clear hi); (try clear ho0); obtain ⟨Ao25, co25, eo25⟩ := Kd.R_slice HO375.out; subst eo25) | ((with_reducible refine gate_builtin (b := .append) (xs := #[.tmp 33, .tmp 36]) rfl ?_); (try (refine gate_guard (by rfl) ?_; dsimp only)); at_builtin; refine Kd.S_append k41 (w0 := w) w.heap.size rfl (.tmp 33) (.tmp 36) 24 41 (.agg #[(.int .i64 0), (.slice none 0 0), (.int .i64 0), (.int .i64 0), (.int .i64 0)]) 56 rfl Tryz.underlying24 info41 rfl (by decide) (by omega) (.slice Ao21 t367.length co21) t367 (⟨t372, t373, t376, t377, t378⟩ : S41) [.int .i64 t372, .slice Ao25 t373.length co25, .int .i64 t376, .int .i64 t377, .int .i64 t378] (fun k_ => k_ ≠ gb366) (fun k_ => some k_ = (.slice Ao25 t373.length co25 : Value).ownBlock) rfl rfl ?aP (fun k_ hk_ => ((Kd.R_mono (ok' := fun k_ => ((fun k_ => k_ ≠ gb366)) k_ ∧ some k_ ≠ (.slice Ao21 t367.length co21 : Value).ownBlock) (Kd.R_types (Kd.R_apart' (HO375.out) (Kd.S_typed HO370.out) (by decide)) BK366.out (by decide)) (fun k_ hk => ⟨hk.2, hk.1.2⟩))).1 k_ hk_.symm) ?aF ?aO ?aB ?aS ?aL ?_; (case aP => exact k41_mkM _ _ _ (⟨t372, t373, t376, t377, t378⟩ : S41) (Kd.R_mono (Kd.R_tight rfl (Kd.R_mono (ok' := fun k_ => ((fun k_ => k_ ≠ gb366)) k_ ∧ some k_ ≠ (.slice Ao21 t367.length co21 : Value).ownBlock) (Kd.R_types (Kd.R_apart' (HO375.out) (Kd.S_typed HO370.out) (by decide)) BK366.out (by decide)) (fun k_ hk => ⟨hk.2, hk.1.2⟩))) (fun _ h_ => h_))); (case aB => exact (by repeat (first | (with_reducible first | exact HB.out | apply below_alloc | apply pw_below_drewN | apply below_drew1 | refine below_set ?_ GE366.out) | exact HB.out))); (case aF => exact (fun k_ hk => Kd.freshB (g := gb366) (o := .cells #[.int .i64 a3_0, .slice A3_1 l3_1.length c3_1, .int .i64 a2, .int .i64 a3_3, .int .i64 a3_4] 41 (0, 0)) (by (with_reducible repeat (first | refine blk_drewN ?_ _ | refine blk_drew ?_ | refine blk_alloc ?_ _)); exact BK366.out) k_ hk)); (case aO => exact (by (with_reducible repeat (first | apply Kd.S_alloc | apply Kd.S_drewN | apply Kd.S_drew)); exact Kd.S_mono HO370.out (fun k_ hk => ⟨hk.1.2, fun e_ => hk.2 e_⟩))); (case aS => exact (below_size (by repeat (first | (with_reducible first | exact HB.out | apply below_alloc | apply pw_below_drewN | apply below_drew1 | refine below_set ?_ GE366.out) | exact HB.out)))); (case aL => have := LMc16.out; omega); intro v380 w24 ho hb hg hat; rw [← Ny379.out] at ho; have n0_ := Aside0.mk (blk_grown (g := gb366) (o := .cells #[.int .i64 a3_0, .slice A3_1 l3_1.length c3_1, .int .i64 a2, .int .i64 a3_3, .int .i64 a3_4] 41 (0, 0)) (by (with_reducible repeat (first | refine blk_drewN ?_ _ | refine blk_drew ?_ | refine blk_alloc ?_ _)); exact BK366.out) hg (Kd.S_away HO370.out (fun _ hk => hk.1.2))); have n1_ := Aside0.mk (hb); have n2_ := Aside0.mk (ho); clear BK366; clear HB; clear HO370; clear HO375; have BK366 := n0_; have HB := n1_; have HO381 := n2_; clear n0_ n1_ n2_; clear ho hb hg hat))
          go_ret2
          exact ⟨_, by first | rfl | (simp [errW_none, errW_some] <;> rfl) | (simp [*, errW_none, errW_some] <;> rfl), by (with_reducible repeat (first | apply Kd.S_alloc | apply Kd.S_drewN | apply Kd.S_drew)); exact Kd.S_mono HO381.out (fun _ hk => trivial), by repeat (first | (with_reducible first | exact HB.out | apply below_alloc | apply pw_below_drewN | apply below_drew1 | refine below_set ?_ GE366.out) | exact HB.out)⟩
        · rw [if_neg c16] at H
          exact absurd H (by simp)
    · replace c8 := Bool.eq_false_iff.mpr c8
      subst c8
      have H1 : (some (([] : List (S41)), false)) = some (r1, r2) := by rw [if_neg (show ¬ (false = true) by decide)] at H; exact H
      clear H
      have H := H1
      clear H1
      simp only [Option.some.injEq, Prod.mk.injEq] at H
      obtain ⟨rfl, rfl⟩ := H
      go_enter Tryz.func18, Tryz.ntmps18
      go_wp2_with (first | ((with_reducible refine gate_dst (N := 7) rfl ?_); (try (refine gate_guard (by rfl) ?_; dsimp only)); refine box_event ?hg (N := 7) ?hd (cs := #[.int .i64 a3_0, .slice A3_1 l3_1.length c3_1, .int .i64 a3_2, .int .i64 a3_3, .int .i64 a3_4]) (t := 41) ?hr ?_; (case hd => rfl); (case hg => rfl); (case hr => first | (go_simp; done) | (go_simp; rfl)); intro gb366 hg w26 hbox hb; have n0_ := Aside0.mk (below_step (by repeat (first | (with_reducible first | exact HB.out | apply below_alloc | apply pw_below_drewN | apply below_drew1) | exact HB.out)) hb); have n1_ := Aside0.mk (hbox); have n2_ := Aside0.mk ((by rw [hg]; exact (below_size (by repeat (first | (with_reducible first | exact HB.out | apply below_alloc | apply pw_below_drewN | apply below_drew1) | exact HB.out))) : w.heap.size ≤ gb366)); have n3_ := Aside0.mk ((by rw [hg]; exact (below_size (by repeat (first | (with_reducible first | exact HB.out | apply below_alloc | apply pw_below_drewN | apply below_drew1) | exact HB.out))) : w.heap.size ≤ gb366)); clear HB; have HB := n0_; have BK366 := n1_; have GW366 := n2_; have GE366 := n3_; clear n0_ n1_ n2_ n3_; clear hb hbox hg) | ((with_reducible refine gate_callee (f := 48) rfl ?_); refine goesL_ (some 16) rfl rfl Tryz.func48 (by kernel_rfl) rfl #[.slice A0 l0.length c0, .int .i64 a1, .int .i64 a2] rfl (by (try simp only [List.map_toArray, List.map_cons, List.map_nil]); first | done | rfl | (simp only [List.length_drop, List.length_take]; rfl)) ?_; (with_reducible refine (impl_ended.calls k _ _ l0 a1 a2 t367 true _ ?side1 ?side2 A5.out).mono ?_); (case side1 => repeat (first | exact (Kd.C_below HR0.out HB.out) | (with_reducible refine Kd.C_alloc ?_ _) | (with_reducible refine Kd.C_drewN ?_ _) | (with_reducible refine Kd.C_drew ?_))); (case side2 => exact HC0.out); rintro e w27 ⟨v369, rfl, ho0, hb⟩; refine ⟨_, rfl, ?_⟩; have n0_ := Aside0.mk (Kd.S_lower (Kd.S_newB ho0 (g := gb366) (o := .cells #[.int .i64 a3_0, .slice A3_1 l3_1.length c3_1, .int .i64 a3_2, .int .i64 a3_3, .int .i64 a3_4] 41 (0, 0)) (by (with_reducible repeat (first | refine blk_drewN ?_ _ | refine blk_drew ?_ | refine blk_alloc ?_ _)); exact BK366.out)) (below_size (by repeat (first | (with_reducible first | exact HB.out | apply below_alloc | apply pw_below_drewN | apply below_drew1 | refine below_set ?_ GE366.out) | exact HB.out)))); have n1_ := Aside0.mk (blk_below (g := gb366) (o := .cells #[.int .i64 a3_0, .slice A3_1 l3_1.length c3_1, .int .i64 a3_2, .int .i64 a3_3, .int .i64 a3_4] 41 (0, 0)) (by (with_reducible repeat (first | refine blk_drewN ?_ _ | refine blk_drew ?_ | refine blk_alloc ?_ _)); exact BK366.out) hb); have n2_ := Aside0.mk (below_step (by repeat (first | (with_reducible first | exact HB.out | apply below_alloc | apply pw_below_drewN | apply below_drew1 | refine below_set ?_ GE366.out) | exact HB.out)) hb); clear BK366; clear HB; have HO370 := n0_; have BK366 := n1_; have HB := n2_; clear n0_ n1_ n2_; (try clear hb); (try clear hb2); (try clear hk); (try clear hi); (try clear ho0); have hcz28_0 : w27.cell? ⟨gb366, 0, none⟩ = some (.int .i64 a3_0) := (blk_cell BK366.out 0).trans rfl; have hcz28_1 : w27.cell? ⟨gb366, 1, none⟩ = some (.slice A3_1 l3_1.length c3_1) := (blk_cell BK366.out 1).trans rfl; have hcz28_2 : w27.cell? ⟨gb366, 2, none⟩ = some (.int .i64 a3_2) := (blk_cell BK366.out 2).trans rfl; have hcz28_3 : w27.cell? ⟨gb366, 3, none⟩ = some (.int .i64 a3_3) := (blk_cell BK366.out 3).trans rfl; have hcz28_4 : w27.cell? ⟨gb366, 4, none⟩ = some (.int .i64 a3_4) := (blk_cell BK366.out 4).trans rfl; have hfz28_0 := blk_frozen BK366.out 0; have hfz28_1 := blk_frozen BK366.out 1; have hfz28_2 := blk_frozen BK366.out 2; have hfz28_3 := blk_frozen BK366.out 3; have hfz28_4 := blk_frozen BK366.out 4) | (go_at_call 49; (with_reducible refine (impl_ValidRule.calls k a3_0 _ _ l3_1 a2 a3_3 a3_4 false _ ?side1 ?side2 A7.out).mono ?_); (case side1 => exact Kd.C_below HR3_1.out (by repeat (first | (with_reducible first | exact HB.out | apply below_alloc | apply pw_below_drewN | apply below_drew1 | refine below_set ?_ GE366.out) | exact HB.out))); (case side2 => exact HC3_1.out); rintro e w29 ⟨rfl, hb⟩; have n0_ := Aside0.mk (Kd.S_below (by (with_reducible repeat (first | apply Kd.S_alloc | apply Kd.S_drewN | apply Kd.S_drew)); exact (Kd.S_mono (Kd.S_far (p := ⟨gb366, 2, none⟩) (Kd.S_mono HO370.out (fun k_ hk => (⟨hk, hk.2⟩ : _ ∧ k_ ≠ gb366))) (fun _ hk => hk.2) (.int .i64 a2)) (fun _ h_ => h_.1))) hb); have n1_ := Aside0.mk (blk_below (g := gb366) (o := .cells #[.int .i64 a3_0, .slice A3_1 l3_1.length c3_1, .int .i64 a2, .int .i64 a3_3, .int .i64 a3_4] 41 (0, 0)) (by (with_reducible repeat (first | refine blk_drewN ?_ _ | refine blk_drew ?_ | refine blk_alloc ?_ _)); refine blk_put (cs := #[.int .i64 a3_0, .slice A3_1 l3_1.length c3_1, .int .i64 a3_2, .int .i64 a3_3, .int .i64 a3_4]) ?_ 2 _ rfl; (with_reducible repeat (first | refine blk_drewN ?_ _ | refine blk_drew ?_ | refine blk_alloc ?_ _)); exact BK366.out) hb); have n2_ := Aside0.mk (below_step (by repeat (first | (with_reducible first | exact HB.out | apply below_alloc | apply pw_below_drewN | apply below_drew1 | refine below_set ?_ GE366.out) | exact HB.out)) hb); clear HO370; clear BK366; clear HB; have HO370 := n0_; have BK366 := n1_; have HB := n2_; clear n0_ n1_ n2_; (try clear hb); (try clear hb2); (try clear hk); (try clear hi)))
      go_ret2
      exact ⟨_, by first | rfl | (simp [errW_none, errW_some] <;> rfl) | (simp [*, errW_none, errW_some] <;> rfl), by first | exact Kd.S_nil _ _ _ _ _ | exact Kd.N_nil _ _ _ _ _ | exact Kd.V_nil _ _ _ _ _ | exact Kd.Q_nil _ _ _ _ _ | exact Kd.R_nil _ _ _ _ _, by repeat (first | (with_reducible first | exact HB.out | apply below_alloc | apply pw_below_drewN | apply below_drew1 | refine below_set ?_ GE366.out) | exact HB.out)⟩
  · replace c6 := Bool.eq_false_iff.mpr c6
    subst c6
    have H1 : (some (([] : List (S41)), false)) = some (r1, r2) := by rw [if_neg (show ¬ (false = true) by decide)] at H; exact H
    clear H
    have H := H1
    clear H1
    simp only [Option.some.injEq, Prod.mk.injEq] at H
    obtain ⟨rfl, rfl⟩ := H
    go_enter Tryz.func18, Tryz.ntmps18
    go_wp2_with (first | ((with_reducible refine gate_dst (N := 7) rfl ?_); (try (refine gate_guard (by rfl) ?_; dsimp only)); refine box_event ?hg (N := 7) ?hd (cs := #[.int .i64 a3_0, .slice A3_1 l3_1.length c3_1, .int .i64 a3_2, .int .i64 a3_3, .int .i64 a3_4]) (t := 41) ?hr ?_; (case hd => rfl); (case hg => rfl); (case hr => first | (go_simp; done) | (go_simp; rfl)); intro gb366 hg w30 hbox hb; have n0_ := Aside0.mk (below_step (by repeat (first | (with_reducible first | exact HB.out | apply below_alloc | apply pw_below_drewN | apply below_drew1) | exact HB.out)) hb); have n1_ := Aside0.mk (hbox); have n2_ := Aside0.mk ((by rw [hg]; exact (below_size (by repeat (first | (with_reducible first | exact HB.out | apply below_alloc | apply pw_below_drewN | apply below_drew1) | exact HB.out))) : w.heap.size ≤ gb366)); have n3_ := Aside0.mk ((by rw [hg]; exact (below_size (by repeat (first | (with_reducible first | exact HB.out | apply below_alloc | apply pw_below_drewN | apply below_drew1) | exact HB.out))) : w.heap.size ≤ gb366)); clear HB; have HB := n0_; have BK366 := n1_; have GW366 := n2_; have GE366 := n3_; clear n0_ n1_ n2_ n3_; clear hb hbox hg) | ((with_reducible refine gate_callee (f := 48) rfl ?_); refine goesL_ (some 16) rfl rfl Tryz.func48 (by kernel_rfl) rfl #[.slice A0 l0.length c0, .int .i64 a1, .int .i64 a2] rfl (by (try simp only [List.map_toArray, List.map_cons, List.map_nil]); first | done | rfl | (simp only [List.length_drop, List.length_take]; rfl)) ?_; (with_reducible refine (impl_ended.calls k _ _ l0 a1 a2 t367 false _ ?side1 ?side2 A5.out).mono ?_); (case side1 => repeat (first | exact (Kd.C_below HR0.out HB.out) | (with_reducible refine Kd.C_alloc ?_ _) | (with_reducible refine Kd.C_drewN ?_ _) | (with_reducible refine Kd.C_drew ?_))); (case side2 => exact HC0.out); rintro e w31 ⟨v369, rfl, ho0, hb⟩; refine ⟨_, rfl, ?_⟩; have n0_ := Aside0.mk (Kd.S_lower (Kd.S_newB ho0 (g := gb366) (o := .cells #[.int .i64 a3_0, .slice A3_1 l3_1.length c3_1, .int .i64 a3_2, .int .i64 a3_3, .int .i64 a3_4] 41 (0, 0)) (by (with_reducible repeat (first | refine blk_drewN ?_ _ | refine blk_drew ?_ | refine blk_alloc ?_ _)); exact BK366.out)) (below_size (by repeat (first | (with_reducible first | exact HB.out | apply below_alloc | apply pw_below_drewN | apply below_drew1 | refine below_set ?_ GE366.out) | exact HB.out)))); have n1_ := Aside0.mk (blk_below (g := gb366) (o := .cells #[.int .i64 a3_0, .slice A3_1 l3_1.length c3_1, .int .i64 a3_2, .int .i64 a3_3, .int .i64 a3_4] 41 (0, 0)) (by (with_reducible repeat (first | refine blk_drewN ?_ _ | refine blk_drew ?_ | refine blk_alloc ?_ _)); exact BK366.out) hb); have n2_ := Aside0.mk (below_step (by repeat (first | (with_reducible first | exact HB.out | apply below_alloc | apply pw_below_drewN | apply below_drew1 | refine below_set ?_ GE366.out) | exact HB.out)) hb); clear BK366; clear HB; have HO370 := n0_; have BK366 := n1_; have HB := n2_; clear n0_ n1_ n2_; (try clear hb); (try clear hb2); (try clear hk); (try clear hi); (try clear ho0); have hcz32_0 : w31.cell? ⟨gb366, 0, none⟩ = some (.int .i64 a3_0) := (blk_cell BK366.out 0).trans rfl; have hcz32_1 : w31.cell? ⟨gb366, 1, none⟩ = some (.slice A3_1 l3_1.length c3_1) := (blk_cell BK366.out 1).trans rfl; have hcz32_2 : w31.cell? ⟨gb366, 2, none⟩ = some (.int .i64 a3_2) := (blk_cell BK366.out 2).trans rfl; have hcz32_3 : w31.cell? ⟨gb366, 3, none⟩ = some (.int .i64 a3_3) := (blk_cell BK366.out 3).trans rfl; have hcz32_4 : w31.cell? ⟨gb366, 4, none⟩ = some (.int .i64 a3_4) := (blk_cell BK366.out 4).trans rfl; have hfz32_0 := blk_frozen BK366.out 0; have hfz32_1 := blk_frozen BK366.out 1; have hfz32_2 := blk_frozen BK366.out 2; have hfz32_3 := blk_frozen BK366.out 3; have hfz32_4 := blk_frozen BK366.out 4))
    go_ret2
    exact ⟨_, by first | rfl | (simp [errW_none, errW_some] <;> rfl) | (simp [*, errW_none, errW_some] <;> rfl), by first | exact Kd.S_nil _ _ _ _ _ | exact Kd.N_nil _ _ _ _ _ | exact Kd.V_nil _ _ _ _ _ | exact Kd.Q_nil _ _ _ _ _ | exact Kd.R_nil _ _ _ _ _, by repeat (first | (with_reducible first | exact HB.out | apply below_alloc | apply pw_below_drewN | apply below_drew1 | refine below_set ?_ GE366.out) | exact HB.out)⟩
/-! ### impl_RepealRule: function 19 -/
def impl_RepealRule.f (k : Nat) (l0 : List (S41)) (a1 : Int) (a2 : Int) : Option ((List (S41)) × Bool) := (impl_ended.f k l0 a1 a2).bind fun bt382 => (some (bt382.1, bt382.2))
theorem impl_RepealRule.mono : ∀ a0 a1 a2 k, LeO (impl_RepealRule.f k a0 a1 a2) (impl_RepealRule.f (k + 1) a0 a1 a2) := by
  intro a0 a1 a2 k
  unfold impl_RepealRule.f
  repeat' first
      | (with_reducible exact impl_ended.mono _ _ _ _)
      | (with_reducible exact LeO.refl _)
      | (with_reducible exact LeO.none _)
      | (with_reducible refine LeO.ite ?_ ?_)
      | (with_reducible refine LeO.bind ?_ (fun _ => ?_))
      | exact impl_ended.mono _ _ _ _
      | exact LeO.none _
      | refine LeO.ite ?_ ?_
      | refine LeO.bind ?_ (fun _ => ?_)
set_option maxHeartbeats 8000000 in
set_option maxRecDepth 100000 in
theorem impl_RepealRule.calls (k : Nat) (A0 : Option Addr) (c0 : Nat) (l0 : List (S41)) (a1 : Int) (a2 : Int) (r1 : List (S41)) (r2 : Bool) (w : World) (hr0 : Kd.C k41 w A0 l0.length l0) (hc0 : l0.length ≤ c0) (h : impl_RepealRule.f k l0 a1 a2 = some (r1, r2)) :
    Calls Tryz.prog 19 #[.slice A0 l0.length c0, .int .i64 a1, .int .i64 a2] w fun e w' => ∃ v0_ : Value, e = .returned (.tuple #[v0_, .bool r2]) ∧ Kd.S k41 41 w' w.heap.size (fun _ => True) v0_ r1 ∧ Below w.heap.size w w' := by
  have HR0 := Aside0.mk hr0
  have HC0 := Aside0.mk hc0
  clear hr0 hc0
  have HB := Aside0.mk (Below.refl w.heap.size w)
  have H : ((impl_ended.f k l0 a1 a2).bind fun bt382 => (some (bt382.1, bt382.2))) = some (r1, r2) := h
  clear h
  replace H := Option.bind_eq_some_iff.mp H
  obtain ⟨⟨t382, t383⟩, A40, H⟩ := H
  replace H : (some (t382, t383)) = some (r1, r2) := H
  have A4 := Aside0.mk A40
  clear A40
  simp only [Option.some.injEq, Prod.mk.injEq] at H
  obtain ⟨rfl, rfl⟩ := H
  go_enter Tryz.func19, Tryz.ntmps19
  go_wp2_with (first | ((with_reducible refine gate_callee (f := 48) rfl ?_); refine goesL_ (some 11) rfl rfl Tryz.func48 (by kernel_rfl) rfl #[.slice A0 l0.length c0, .int .i64 a1, .int .i64 a2] rfl (by (try simp only [List.map_toArray, List.map_cons, List.map_nil]); first | done | rfl | (simp only [List.length_drop, List.length_take]; rfl)) ?_; (with_reducible refine (impl_ended.calls k _ _ l0 a1 a2 t382 t383 _ ?side1 ?side2 A4.out).mono ?_); (case side1 => repeat (first | exact HR0.out | (with_reducible refine Kd.C_alloc ?_ _) | (with_reducible refine Kd.C_drewN ?_ _) | (with_reducible refine Kd.C_drew ?_))); (case side2 => exact HC0.out); rintro e w5 ⟨v384, rfl, ho0, hb⟩; refine ⟨_, rfl, ?_⟩; have n0_ := Aside0.mk (Kd.S_lower ho0 (below_size (by repeat (first | (with_reducible first | exact HB.out | apply below_alloc | apply pw_below_drewN | apply below_drew1) | exact HB.out)))); have n1_ := Aside0.mk (below_step (by repeat (first | (with_reducible first | exact HB.out | apply below_alloc | apply pw_below_drewN | apply below_drew1) | exact HB.out)) hb); clear HB; have HO385 := n0_; have HB := n1_; clear n0_ n1_; (try clear hb); (try clear hb2); (try clear hk); (try clear hi); (try clear ho0)))
  go_ret2
  exact ⟨_, by first | rfl | (simp [errW_none, errW_some] <;> rfl) | (simp [*, errW_none, errW_some] <;> rfl), by (with_reducible repeat (first | apply Kd.S_alloc | apply Kd.S_drewN | apply Kd.S_drew)); exact HO385.out, by repeat (first | (with_reducible first | exact HB.out | apply below_alloc | apply pw_below_drewN | apply below_drew1) | exact HB.out)⟩
end Go.Proofs.YtoippneeagaceaaGreat.PR

namespace Go.Proofs.YtoippneeagaceaaGreat.PR
open Go.RowKit Go.Shelf Go.Proofs.YtoippneeagaceaaGreatW.PrintWords Go.Proofs.YtoippneeagaceaaGreatW.PrintLast Go.Proofs.YtoippneeagaceaaGreatW.PrintMore
set_option linter.unusedVariables false
set_option linter.unusedSimpArgs false
/-- A slice of rules lies in memory. -/
structure RdL (W : World) (A : Option Addr) (c : Nat) (xs : List S41) : Prop where
  rd : Kd.C k41 W A xs.length xs
  le : xs.length ≤ c
/-- A slice of integers lies in memory. -/
structure RdI (W : World) (A : Option Addr) (c : Nat) (xs : List Int) : Prop where
  rd : Kd.C (Kd.int .i64) W A xs.length xs
  le : xs.length ≤ c
/-- A slice of bytes lies in memory. -/
structure RdB (W : World) (A : Option Addr) (c : Nat) (xs : List Int) : Prop where
  rd : Kd.C (Kd.int .u8) W A xs.length xs
  le : xs.length ≤ c
theorem RdL.later {W W' : World} {A : Option Addr} {c : Nat} {xs : List S41} (h : RdL W A c xs) (hb : Below W.heap.size W W') : RdL W' A c xs := ⟨Kd.C_below h.rd hb, h.le⟩
theorem RdI.later {W W' : World} {A : Option Addr} {c : Nat} {xs : List Int} (h : RdI W A c xs) (hb : Below W.heap.size W W') : RdI W' A c xs := ⟨Kd.C_below h.rd hb, h.le⟩
theorem RdB.later {W W' : World} {A : Option Addr} {c : Nat} {xs : List Int} (h : RdB W A c xs) (hb : Below W.heap.size W W') : RdB W' A c xs := ⟨Kd.C_below h.rd hb, h.le⟩
/-- What is held of a world, and stays so whatever is made. -/
structure Bun (w : World) (F : World → Prop) (W : World) : Prop where
  holds : F W
  keep : ∀ W W', Below W.heap.size W W' → F W → F W'
  below : Below w.heap.size w W
theorem Bun.later {w W W' : World} {F : World → Prop} (h : Bun w F W) (hb : Below W.heap.size W W') : Bun w F W' := ⟨h.keep _ _ hb h.holds, h.keep, below_step h.below hb⟩
theorem Bun.alloc {w W : World} {F : World → Prop} (h : Bun w F W) (o : Obj) : Bun w F (W.alloc o) := h.later (below_alloc (Below.refl _ _) _)
theorem Bun.drewN {w W : World} {F : World → Prop} (h : Bun w F W) (n : Nat) : Bun w F (W.drewN n) := h.later (pw_below_drewN (Below.refl _ _) n)
theorem Bun.drew {w W : World} {F : World → Prop} (h : Bun w F W) : Bun w F W.drew := h.later (below_drew1 (Below.refl _ _))
theorem Bun.addL {w W : World} {F : World → Prop} (h : Bun w F W) {A : Option Addr} {c : Nat} {xs : List S41} (r : RdL W A c xs) : Bun w (fun W => F W ∧ RdL W A c xs) W := ⟨⟨h.holds, r⟩, fun _ _ hb q => ⟨h.keep _ _ hb q.1, q.2.later hb⟩, h.below⟩
theorem Bun.addI {w W : World} {F : World → Prop} (h : Bun w F W) {A : Option Addr} {c : Nat} {xs : List Int} (r : RdI W A c xs) : Bun w (fun W => F W ∧ RdI W A c xs) W := ⟨⟨h.holds, r⟩, fun _ _ hb q => ⟨h.keep _ _ hb q.1, q.2.later hb⟩, h.below⟩
theorem Bun.addB {w W : World} {F : World → Prop} (h : Bun w F W) {A : Option Addr} {c : Nat} {xs : List Int} (r : RdB W A c xs) : Bun w (fun W => F W ∧ RdB W A c xs) W := ⟨⟨h.holds, r⟩, fun _ _ hb q => ⟨h.keep _ _ hb q.1, q.2.later hb⟩, h.below⟩
theorem Bun.addC {w W : World} {F : World → Prop} (h : Bun w F W) {g : Nat} {cs : Array Value} {t : TypeId} (r : W.heap[g]? = some (.cells cs t (0, 0))) : Bun w (fun W => F W ∧ W.heap[g]? = some (.cells cs t (0, 0))) W := ⟨⟨h.holds, r⟩, fun _ _ hb q => ⟨h.keep _ _ hb q.1, blk_below q.2 hb⟩, h.below⟩
theorem Bun.sub {w W : World} {F G : World → Prop} (h : Bun w F W) (hg : ∀ W, F W → G W) (hk : ∀ W W', Below W.heap.size W W' → G W → G W') : Bun w G W := ⟨hg _ h.holds, hk, h.below⟩
theorem Bun.start (w : World) : Bun w (fun _ => True) w := ⟨trivial, fun _ _ _ _ => trivial, Below.refl _ _⟩
section
variable {W : World} {A A1 : Option Addr} {c c1 : Nat} {l : List S41} {b b1 : List Int}
theorem c_long (h0 : RdB W A c b) (h1 : RdB W A1 c1 b1) {r : Bool} (h : laws_b10Long.f b b1 = some r) : Calls Tryz.prog 5 #[.slice A b.length c, .slice A1 b1.length c1] W fun e w' => e = .returned (.bool r) ∧ Below W.heap.size W w' :=
  (laws_b10Long.calls A c b A1 c1 b1 r W h0.rd h0.le h1.rd h1.le h).mono fun _ _ ⟨he, hd⟩ => ⟨he, hd.below⟩
theorem c_rules (h0 : RdB W A c b) {k : Nat} (h : spec_B10Rules.f k b = some l) : Calls Tryz.prog 6 #[.slice A b.length c] W fun e w' => ∃ A' c', e = .returned (.slice A' l.length c') ∧ RdL w' A' c' l ∧ Below W.heap.size W w' :=
  (spec_B10Rules.calls k A c b l W h0.rd h0.le h).mono fun _ w' ⟨v, he, hs, hb⟩ => by
    obtain ⟨A', c', rfl, hl, hr⟩ := Kd.S_reads hs
    exact ⟨A', c', he, ⟨hr, hl⟩, hb⟩
theorem c_change1 (h0 : RdL W A c l) {r : List Int} (h : impl_ChangeDays.f l = some (r, true)) : Calls Tryz.prog 7 #[.slice A l.length c] W fun e w' => ∃ A' c', e = .returned (.tuple #[.slice A' r.length c', .bool true]) ∧ RdI w' A' c' r ∧ Below W.heap.size W w' :=
  (impl_ChangeDays.calls A c l r true W h0.rd h0.le h).mono fun _ w' ⟨v, he, hs, hb⟩ => by
    obtain ⟨A', c', rfl, hl, hr⟩ := Kd.R_reads hs
    exact ⟨A', c', he, ⟨hr, hl⟩, hb⟩
theorem c_change2 (h0 : RdL W A c l) {r : List Int} {k : Nat} (h : spec_ChangeDays.f k l = some (r, true)) : Calls Tryz.prog 8 #[.slice A l.length c] W fun e w' => ∃ A' c', e = .returned (.tuple #[.slice A' r.length c', .bool true]) ∧ RdI w' A' c' r ∧ Below W.heap.size W w' :=
  (spec_ChangeDays.calls k A c l r true W h0.rd h0.le h).mono fun _ w' ⟨v, he, hs, hb⟩ => by
    obtain ⟨A', c', rfl, hl, hr⟩ := Kd.R_reads hs
    exact ⟨A', c', he, ⟨hr, hl⟩, hb⟩
theorem c_ints (h0 : RdI W A c b) (h1 : RdI W A1 c1 b1) {k : Nat} {r : Bool} (h : laws_b10Ints.f k b b1 = some r) : Calls Tryz.prog 9 #[.slice A b.length c, .slice A1 b1.length c1] W fun e w' => e = .returned (.bool r) ∧ Below W.heap.size W w' :=
  (laws_b10Ints.calls k A c b A1 c1 b1 r W h0.rd h0.le h1.rd h1.le h).mono fun _ _ ⟨he, hd⟩ => ⟨he, hd.below⟩
theorem c_facts (h0 : RdB W A c b) {k : Nat} {r : List Int} (h : spec_B10Facts.f k b = some r) : Calls Tryz.prog 10 #[.slice A b.length c] W fun e w' => ∃ A' c', e = .returned (.slice A' r.length c') ∧ RdI w' A' c' r ∧ Below W.heap.size W w' :=
  (spec_B10Facts.calls k A c b r W h0.rd h0.le h).mono fun _ w' ⟨v, he, hs, hb⟩ => by
    obtain ⟨A', c', rfl, hl, hr⟩ := Kd.R_reads hs
    exact ⟨A', c', he, ⟨hr, hl⟩, hb⟩
theorem c_at (h0 : RdB W A c b) {i n r : Int} (h : laws_b10At.f b i n = some r) : Calls Tryz.prog 11 #[.slice A b.length c, .int .i64 i, .int .i64 n] W fun e w' => e = .returned (.int .i64 r) ∧ Below W.heap.size W w' :=
  (laws_b10At.calls A c b i n r W h0.rd h0.le h).mono fun _ _ ⟨he, hd⟩ => ⟨he, hd.below⟩
theorem c_days (h0 : RdL W A c l) (h1 : RdI W A1 c1 b1) {x d0 d1 r : Int} (h : impl_DaysProved.f l b1 x d0 d1 = some (r, true)) : Calls Tryz.prog 12 #[.slice A l.length c, .slice A1 b1.length c1, .int .i64 x, .int .i64 d0, .int .i64 d1] W fun e w' => e = .returned (.tuple #[.int .i64 r, .bool true]) ∧ Below W.heap.size W w' :=
  impl_DaysProved.calls A c l A1 c1 b1 x d0 d1 r true W h0.rd h0.le h1.rd h1.le h
theorem c_active (h0 : RdL W A c l) {d : Int} {r : List Int} (h : spec_ActiveRules.f l d = some (r, true)) : Calls Tryz.prog 13 #[.slice A l.length c, .int .i64 d] W fun e w' => ∃ A' c', e = .returned (.tuple #[.slice A' r.length c', .bool true]) ∧ RdI w' A' c' r ∧ Below W.heap.size W w' :=
  (spec_ActiveRules.calls A c l d r true W h0.rd h0.le h).mono fun _ w' ⟨v, he, hs, hb⟩ => by
    obtain ⟨A', c', rfl, hl, hr⟩ := Kd.R_reads hs
    exact ⟨A', c', he, ⟨hr, hl⟩, hb⟩
theorem c_answers (h0 : RdL W A c l) (h1 : RdI W A1 c1 b1) {d : Int} {r1 r2 : List Int} (h : spec_AnswersOf.f l b1 d = some (r1, r2, true)) : Calls Tryz.prog 14 #[.slice A l.length c, .slice A1 b1.length c1, .int .i64 d] W fun e w' => ∃ A' c' A'' c'', e = .returned (.tuple #[.slice A' r1.length c', .slice A'' r2.length c'', .bool true]) ∧ RdI w' A' c' r1 ∧ RdI w' A'' c'' r2 ∧ Below W.heap.size W w' :=
  (spec_AnswersOf.calls A c l A1 c1 b1 d r1 r2 true W h0.rd h0.le h1.rd h1.le h).mono fun _ w' ⟨v, v1, he, hs, hs1, hb⟩ => by
    obtain ⟨A', c', rfl, hl, hr⟩ := Kd.R_reads hs
    obtain ⟨A'', c'', rfl, hl', hr'⟩ := Kd.R_reads hs1
    exact ⟨A', c', A'', c'', he, ⟨hr, hl⟩, ⟨hr', hl'⟩, hb⟩
theorem c_has (h0 : RdI W A c b) {k : Nat} {x : Int} {r : Bool} (h : laws_b10Has.f k b x = some r) : Calls Tryz.prog 15 #[.slice A b.length c, .int .i64 x] W fun e w' => e = .returned (.bool r) ∧ Below W.heap.size W w' :=
  (laws_b10Has.calls k A c b x r W h0.rd h0.le h).mono fun _ _ ⟨he, hd⟩ => ⟨he, hd.below⟩
theorem c_rulesAt (h0 : RdL W A c l) {d : Int} {k : Nat} {r : List S41} (h : impl_RulesAt.f k l d = some (r, true)) {m : Nat} (hm : r.length = m) : Calls Tryz.prog 16 #[.slice A l.length c, .int .i64 d] W fun e w' => ∃ A' c', e = .returned (.tuple #[.slice A' m c', .bool true]) ∧ RdL w' A' c' r ∧ Below W.heap.size W w' :=
  (impl_RulesAt.calls k A c l d r true W h0.rd h0.le h).mono fun _ w' ⟨v, he, hs, hb⟩ => by
    obtain ⟨A', c', rfl, hl, hr⟩ := Kd.S_reads hs
    rw [hm] at he
    exact ⟨A', c', he, ⟨hr, hl⟩, hb⟩
theorem c_amend1 (h0 : RdL W A c l) (h1 : RdI W A1 c1 b1) {a d x0 x2 x3 x4 : Int} {k : Nat} {r : List S41} {q : Bool} (h : spec_AmendRule.f k l a d x0 b1 x2 x3 x4 = some (r, q)) : Calls Tryz.prog 17 #[.slice A l.length c, .int .i64 a, .int .i64 d, .agg #[.int .i64 x0, .slice A1 b1.length c1, .int .i64 x2, .int .i64 x3, .int .i64 x4]] W fun e w' => ∃ A' c', e = .returned (.tuple #[.slice A' r.length c', .bool q]) ∧ RdL w' A' c' r ∧ Below W.heap.size W w' :=
  (spec_AmendRule.calls k A c l a d x0 A1 c1 b1 x2 x3 x4 r q W h0.rd h0.le h1.rd h1.le h).mono fun _ w' ⟨v, he, hs, hb⟩ => by
    obtain ⟨A', c', rfl, hl, hr⟩ := Kd.S_reads hs
    exact ⟨A', c', he, ⟨hr, hl⟩, hb⟩
theorem c_amend2 (h0 : RdL W A c l) (h1 : RdI W A1 c1 b1) {a d x0 x2 x3 x4 : Int} {k : Nat} {r : List S41} {q : Bool} (h : impl_AmendRule.f k l a d x0 b1 x2 x3 x4 = some (r, q)) : Calls Tryz.prog 18 #[.slice A l.length c, .int .i64 a, .int .i64 d, .agg #[.int .i64 x0, .slice A1 b1.length c1, .int .i64 x2, .int .i64 x3, .int .i64 x4]] W fun e w' => ∃ A' c', e = .returned (.tuple #[.slice A' r.length c', .bool q]) ∧ RdL w' A' c' r ∧ Below W.heap.size W w' :=
  (impl_AmendRule.calls k A c l a d x0 A1 c1 b1 x2 x3 x4 r q W h0.rd h0.le h1.rd h1.le h).mono fun _ w' ⟨v, he, hs, hb⟩ => by
    obtain ⟨A', c', rfl, hl, hr⟩ := Kd.S_reads hs
    exact ⟨A', c', he, ⟨hr, hl⟩, hb⟩
theorem c_repeal (h0 : RdL W A c l) {a d : Int} {k : Nat} {r : List S41} {q : Bool} (h : impl_RepealRule.f k l a d = some (r, q)) : Calls Tryz.prog 19 #[.slice A l.length c, .int .i64 a, .int .i64 d] W fun e w' => ∃ A' c', e = .returned (.tuple #[.slice A' r.length c', .bool q]) ∧ RdL w' A' c' r ∧ Below W.heap.size W w' :=
  (impl_RepealRule.calls k A c l a d r q W h0.rd h0.le h).mono fun _ w' ⟨v, he, hs, hb⟩ => by
    obtain ⟨A', c', rfl, hl, hr⟩ := Kd.S_reads hs
    exact ⟨A', c', he, ⟨hr, hl⟩, hb⟩
theorem c_amend2m (h0 : RdL W A c l) (h1 : RdI W A1 c1 b1) {a d x0 x2 x3 x4 : Int} {k : Nat} {r : List S41} {q : Bool} (h : impl_AmendRule.f k l a d x0 b1 x2 x3 x4 = some (r, q)) {m : Nat} (hm : r.length = m) : Calls Tryz.prog 18 #[.slice A l.length c, .int .i64 a, .int .i64 d, .agg #[.int .i64 x0, .slice A1 b1.length c1, .int .i64 x2, .int .i64 x3, .int .i64 x4]] W fun e w' => ∃ A' c', e = .returned (.tuple #[.slice A' m c', .bool q]) ∧ RdL w' A' c' r ∧ Below W.heap.size W w' := by
  subst hm
  exact c_amend2 h0 h1 h
theorem c_repealm (h0 : RdL W A c l) {a d : Int} {k : Nat} {r : List S41} {q : Bool} (h : impl_RepealRule.f k l a d = some (r, q)) {m : Nat} (hm : r.length = m) : Calls Tryz.prog 19 #[.slice A l.length c, .int .i64 a, .int .i64 d] W fun e w' => ∃ A' c', e = .returned (.tuple #[.slice A' m c', .bool q]) ∧ RdL w' A' c' r ∧ Below W.heap.size W w' := by
  subst hm
  exact c_repeal h0 h
theorem c_amend1o (h0 : RdL W A c l) (h1 : RdI W A1 c1 [1]) {a d x0 x2 x3 x4 : Int} {k : Nat} {r : List S41} {q : Bool} (h : spec_AmendRule.f k l a d x0 [1] x2 x3 x4 = some (r, q)) : Calls Tryz.prog 17 #[.slice A l.length c, .int .i64 a, .int .i64 d, .agg #[.int .i64 x0, .slice A1 1 c1, .int .i64 x2, .int .i64 x3, .int .i64 x4]] W fun e w' => ∃ A' c', e = .returned (.tuple #[.slice A' r.length c', .bool q]) ∧ RdL w' A' c' r ∧ Below W.heap.size W w' := c_amend1 h0 h1 h
theorem c_amend2o (h0 : RdL W A c l) (h1 : RdI W A1 c1 [1]) {a d x0 x2 x3 x4 : Int} {k : Nat} {r : List S41} {q : Bool} (h : impl_AmendRule.f k l a d x0 [1] x2 x3 x4 = some (r, q)) {m : Nat} (hm : r.length = m) : Calls Tryz.prog 18 #[.slice A l.length c, .int .i64 a, .int .i64 d, .agg #[.int .i64 x0, .slice A1 1 c1, .int .i64 x2, .int .i64 x3, .int .i64 x4]] W fun e w' => ∃ A' c', e = .returned (.tuple #[.slice A' m c', .bool q]) ∧ RdL w' A' c' r ∧ Below W.heap.size W w' := c_amend2m h0 h1 h hm
theorem c_activem (h0 : RdL W A c l) {d : Int} {r : List Int} (h : spec_ActiveRules.f l d = some (r, true)) {m : Nat} (hm : l.length = m) : Calls Tryz.prog 13 #[.slice A m c, .int .i64 d] W fun e w' => ∃ A' c', e = .returned (.tuple #[.slice A' r.length c', .bool true]) ∧ RdI w' A' c' r ∧ Below W.heap.size W w' := by
  subst hm
  exact c_active h0 h
end
end Go.Proofs.YtoippneeagaceaaGreat.PR

