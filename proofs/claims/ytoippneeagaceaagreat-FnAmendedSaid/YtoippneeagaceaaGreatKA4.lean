/- Contracts and plain laws of functions of the given program: texts of this session, joined. -/
import Derived.ArgAppend
import Derived.Below
import Derived.BigQuiet
import Derived.Deep.AppendLies
import Derived.Deep.CutBlock
import Derived.Deep.DeepCutAuto
import Derived.Deep.Draws
import Derived.Deep.LoopGhost
import Derived.Deep.OwnRows
import Derived.Deep.QuietTactic
import Derived.Deep.RegionHeld3
import Derived.Deep.RegionWith
import Derived.KernelRfl
import Derived.Laws.BitsLemmas
import Derived.Laws.BytesArg
import Derived.Laws.IdiomCopy
import Derived.Laws.MakeOwn
import Derived.Laws.OwnMore
import Derived.Laws.Rows
import Derived.Laws.Slices
import Derived.Laws.StructEq
import Derived.Lib.AppendStr
import Derived.Lib.ConvBytes
import Derived.Maps.AppendAt
import Derived.OrdersHeld
import Derived.OwnWalk
import Derived.RowKit
import Derived.RowKit3
import Derived.Shelf.Abstract
import Derived.Tactics
import Derived.Test.YtoippneeagaceaaGreatKA3
import Derived.Test.YtoippneeagaceaaGreatKA1
import Derived.Test.YtoippneeagaceaaGreatKA2
import Derived.Test.YtoippneeagaceaaGreatProg
import Derived.WalkKit
import Derived.WideLaws
import Derived.Deep.RegionHeld
import Derived.Maps.OwnSet
import Derived.WideKeyEntry
import Derived.Shelf.Small.Bits
import Derived.Shelf.Strconv.Itoa0
import Derived.BigCall
import Derived.BigGuard
import Derived.CellFam
import Derived.Lib.Strings
import Derived.Lib.Walk
import Derived.Sort.EncStr
import Derived.Sort.Grow
import Derived.Sort.LotA
import Derived.Sort.LotD1
import Derived.Sort.Row
namespace Go.Proofs.YtoippneeagaceaaGreat.PR
open Go.RowKit Go.Shelf Go.Proofs.YtoippneeagaceaaGreatW.PrintWords Go.Proofs.YtoippneeagaceaaGreatW.PrintLast Go.Proofs.YtoippneeagaceaaGreatW.PrintMore
set_option linter.unusedVariables false
set_option linter.unusedSimpArgs false
/-- A state of spec's lies in block g: yes, no, fact. -/
structure IsSt (W : World) (g : Nat) (Y N F : Nat → Bool) : Prop where
  ex : ∃ cs, W.heap[g]? = some (.cells cs 70 (0, 0)) ∧ (∀ j, j < 32 → cs[j]? = some (.bool (Y j))) ∧ (∀ j, j < 32 → cs[32 + j]? = some (.bool (N j))) ∧ (∀ j, j < 32 → cs[64 + j]? = some (.bool (F j)))
namespace IsSt
variable {W w : World} {g : Nat} {Y N F : Nat → Bool}
theorem y (h : IsSt W g Y N F) {j : Nat} (hj : j < 32) : W.cell? ⟨g, j, none⟩ = some (.bool (Y j)) := by obtain ⟨cs, h0, h1, _⟩ := h.ex; exact (blk_cell h0 _).trans (h1 j hj)
theorem n (h : IsSt W g Y N F) {j : Nat} (hj : j < 32) : W.cell? ⟨g, 32 + j, none⟩ = some (.bool (N j)) := by obtain ⟨cs, h0, _, h1, _⟩ := h.ex; exact (blk_cell h0 _).trans (h1 j hj)
theorem f (h : IsSt W g Y N F) {j : Nat} (hj : j < 32) : W.cell? ⟨g, 64 + j, none⟩ = some (.bool (F j)) := by obtain ⟨cs, h0, _, _, h1⟩ := h.ex; exact (blk_cell h0 _).trans (h1 j hj)
theorem frozen (h : IsSt W g Y N F) (i : Nat) : W.frozen? ⟨g, i, none⟩ = false := by obtain ⟨cs, h0, _⟩ := h.ex; exact blk_frozen h0 i
theorem lt (h : IsSt W g Y N F) : g < W.heap.size := by obtain ⟨cs, h0, _⟩ := h.ex; exact blk_lt h0
theorem below (h : IsSt W g Y N F) {W' : World} (hb : Below W.heap.size W W') : IsSt W' g Y N F := by obtain ⟨cs, h0, h1⟩ := h.ex; exact ⟨cs, blk_below h0 hb, h1⟩
theorem drewN (h : IsSt W g Y N F) (k : Nat) : IsSt (W.drewN k) g Y N F := by obtain ⟨cs, h0, h1⟩ := h.ex; exact ⟨cs, blk_drewN h0 k, h1⟩
theorem setY (h : IsSt W g Y N F) {j : Nat} (hj : j < 32) : IsSt (W.setCell ⟨g, j, none⟩ (.bool true)) g (upd Y j) N F := by
  obtain ⟨cs, h0, h1, h2, h3⟩ := h.ex
  refine ⟨_, blk_set h0 j _, fun i hi => ?_, fun i hi => ?_, fun i hi => ?_⟩
  · have hsz := (Array.getElem?_eq_some_iff.1 (h1 i hi)).1
    by_cases e : j = i
    · subst e; simp [upd, Array.getElem?_setIfInBounds, hsz]
    · have e' : ¬ i = j := fun h => e h.symm
      simp [upd, Array.getElem?_setIfInBounds, e, e', h1 i hi]
  · rw [Array.getElem?_setIfInBounds, if_neg (by omega)]; exact h2 i hi
  · rw [Array.getElem?_setIfInBounds, if_neg (by omega)]; exact h3 i hi
theorem setN (h : IsSt W g Y N F) {j : Nat} (hj : j < 32) : IsSt (W.setCell ⟨g, 32 + j, none⟩ (.bool true)) g Y (upd N j) F := by
  obtain ⟨cs, h0, h1, h2, h3⟩ := h.ex
  refine ⟨_, blk_set h0 (32 + j) _, fun i hi => ?_, fun i hi => ?_, fun i hi => ?_⟩
  · rw [Array.getElem?_setIfInBounds, if_neg (by omega)]; exact h1 i hi
  · have hsz := (Array.getElem?_eq_some_iff.1 (h2 i hi)).1
    by_cases e : j = i
    · subst e; simp [upd, Array.getElem?_setIfInBounds, hsz]
    · have e' : ¬ i = j := fun h => e h.symm
      rw [Array.getElem?_setIfInBounds, if_neg (by omega), h2 i hi]; simp [upd, e']
  · rw [Array.getElem?_setIfInBounds, if_neg (by omega)]; exact h3 i hi
theorem setF (h : IsSt W g Y N F) {j : Nat} (hj : j < 32) : IsSt (W.setCell ⟨g, 64 + j, none⟩ (.bool true)) g Y N (upd F j) := by
  obtain ⟨cs, h0, h1, h2, h3⟩ := h.ex
  refine ⟨_, blk_set h0 (64 + j) _, fun i hi => ?_, fun i hi => ?_, fun i hi => ?_⟩
  · rw [Array.getElem?_setIfInBounds, if_neg (by omega)]; exact h1 i hi
  · rw [Array.getElem?_setIfInBounds, if_neg (by omega)]; exact h2 i hi
  · have hsz := (Array.getElem?_eq_some_iff.1 (h3 i hi)).1
    by_cases e : j = i
    · subst e; simp [upd, Array.getElem?_setIfInBounds, hsz]
    · have e' : ¬ i = j := fun h => e h.symm
      rw [Array.getElem?_setIfInBounds, if_neg (by omega), h3 i hi]; simp [upd, e']
end IsSt
/-- The first n facts are laid. -/
structure Laid (l : List Int) (n : Nat) (Y N F : Nat → Bool) : Prop where
  yy : ∀ x, wordB x = true → (Y (plc x) = true ↔ x ∈ l.take n)
  nn : ∀ x, wordB x = true → (N (plc x) = true ↔ -x ∈ l.take n)
  ff : ∀ x, wordB x = true → (F (plc x) = true ↔ x ∈ l.take n)
theorem laid_zero {l : List Int} : Laid l 0 (fun _ => false) (fun _ => false) (fun _ => false) := ⟨by simp, by simp, by simp⟩
theorem upd_plc {Y : Nat → Bool} {x y : Int} (hx : wordB x = true) (hy : wordB y = true) : upd Y (plc y) (plc x) = true ↔ (x = y ∨ Y (plc x) = true) := by
  unfold upd
  by_cases e : plc x = plc y
  · simp [plc_inj hx hy e]
  · rw [if_neg e]
    have : x ≠ y := fun h => e (by rw [h])
    simp [this]
theorem laid_succ {l : List Int} {n : Nat} {Y N F : Nat → Bool} (h : Laid l n Y N F) (hn : n < l.length) {y : Int} (hy : l.getD n 0 = y) (hw : wordB y = true) : Laid l (n + 1) (upd Y (plc y)) (upd N (plc (-y))) (upd F (plc y)) := by
  have ht : l.take (n + 1) = l.take n ++ [y] := by rw [List.take_succ_eq_append_getElem hn, ← hy]; simp [hn]
  refine ⟨fun x hx => ?_, fun x hx => ?_, fun x hx => ?_⟩
  · rw [upd_plc hx hw, h.yy x hx, ht]; simp [or_comm]
  · rw [upd_plc hx (wordB_neg hw), h.nn x hx, ht]
    have : x = -y ↔ -x = y := by omega
    simp [or_comm, this]
  · rw [upd_plc hx hw, h.ff x hx, ht]; simp [or_comm]
theorem laid_facts {l : List Int} {Y N F : Nat → Bool} (h : Laid l l.length Y N F) : ∀ x, wordB x = true → (F (plc x) = true ↔ x ∈ l) := fun x hx => by have := h.ff x hx; rwa [List.take_length] at this
theorem laid_based {l : List Int} {Y N F : Nat → Bool} (h : Laid l l.length Y N F) (hl : ∀ y ∈ l, wordB y = true) : Based l Y N := fun y hy => by
  have h1 := h.yy y (hl y hy)
  have h2 := h.nn (-y) (wordB_neg (hl y hy))
  rw [List.take_length] at h1 h2
  exact ⟨h1.2 hy, h2.2 (by simpa using hy)⟩
theorem laid_sound {rules : List S41} {l : List Int} {Y N F : Nat → Bool} (h : Laid l l.length Y N F) (hl : ∀ y ∈ l, wordB y = true) : Sound rules l Y N := by
  refine ⟨fun x hx hY P D hc => ?_, fun x hx hN P D hc => ?_⟩
  · have h1 := h.yy x hx
    rw [List.take_length] at h1
    exact (hc.fact x (h1.1 hY)).1
  · have h1 := h.nn x hx
    rw [List.take_length] at h1
    have := (hc.fact (-x) (h1.1 hN)).2
    simpa using this
/-- The end: what is proved and disproved. -/
def Final (rules : List S41) (facts : List Int) (Y N : Nat → Bool) : Prop := (∀ x, wordB x = true → (Y (plc x) = true ↔ YesP rules facts x)) ∧ ∀ x, wordB x = true → (N (plc x) = true ↔ NoP rules facts x)
theorem Inv.mono_done {rules : List S41} {facts : List Int} {m0 : Nat} {more : Bool} {Y N : Nat → Bool} {done done' : Int → Prop} (h : Inv rules facts m0 more Y N done) (hd : ∀ x, done' x → done x) : Inv rules facts m0 more Y N done' :=
  ⟨h.sound, h.based, h.less, h.same, fun e x hx => h.closed e x (hd x hx)⟩
theorem ht_true {a b : Bool} (h : true = (!a && b)) : a = false ∧ b = true := by
  revert h; cases a <;> cases b <;> intro h <;> first | exact ⟨rfl, rfl⟩ | (exact absurd h (by decide))
theorem ht_false {a b : Bool} (h : false = (!a && b)) (hb : b = true) : a = true := by
  revert h; subst hb; cases a <;> intro h <;> first | rfl | (exact absurd h (by decide))
/-- The inner step stands between: what is proved has been looked at, what is disproved not yet. -/
structure Mid (rules : List S41) (facts : List Int) (m0 : Nat) (more : Bool) (Y N : Nat → Bool) (done : Int → Prop) (x : Int) : Prop where
  inv : Inv rules facts m0 more Y N done
  yes : more = false → provedB (fun y => Y (plc y)) (fun y => N (plc y)) rules x = true → Y (plc x) = true
theorem Inv.step_yes0 {rules : List S41} {facts : List Int} {m0 : Nat} {more : Bool} {Y N : Nat → Bool} {done : Int → Prop} (h : Inv rules facts m0 more Y N done) {x : Int}
    (ht : false = (!Y (plc x) && provedB (fun y => Y (plc y)) (fun y => N (plc y)) rules x)) : Mid rules facts m0 more Y N done x := ⟨h, fun _ hp => ht_false ht hp⟩
theorem Inv.step_yes1 {rules : List S41} {facts : List Int} {m0 : Nat} {more : Bool} {Y N : Nat → Bool} {done : Int → Prop} (h : Inv rules facts m0 more Y N done) (hw : RuleWords rules) {x : Int} (hx : wordB x = true) (h1 : x ∉ facts) (h2 : -x ∉ facts)
    (h3 : Y (plc x) = false) (h4 : provedB (fun y => Y (plc y)) (fun y => N (plc y)) rules x = true) : Mid rules facts m0 true (upd Y (plc x)) N done x := ⟨h.yes hw hx h1 h2 h3 h4 done, fun e => by cases e⟩
theorem Mid.step_no0 {rules : List S41} {facts : List Int} {m0 : Nat} {more : Bool} {Y N : Nat → Bool} {done done' : Int → Prop} {x : Int} (h : Mid rules facts m0 more Y N done x)
    (ht : false = (!N (plc x) && disprovedB (fun y => Y (plc y)) (fun y => N (plc y)) rules x)) (hd : ∀ z, done' z → done z ∨ z = x) : Inv rules facts m0 more Y N done' :=
  h.inv.next (fun e _ _ => ⟨h.yes e, fun hp => ht_false ht hp⟩) hd
theorem zero_cells : (∀ j : Fin 32, Tryz.zeroCells70[j.val]? = some (.bool false)) ∧ (∀ j : Fin 32, Tryz.zeroCells70[32 + j.val]? = some (.bool false)) ∧ (∀ j : Fin 32, Tryz.zeroCells70[64 + j.val]? = some (.bool false)) := by
  refine ⟨fun j => ?_, fun j => ?_, fun j => ?_⟩ <;> (obtain ⟨j, hj⟩ := j; match j, hj with | 0, _ | 1, _ | 2, _ | 3, _ | 4, _ | 5, _ | 6, _ | 7, _ | 8, _ | 9, _ | 10, _ | 11, _ | 12, _ | 13, _ | 14, _ | 15, _ | 16, _ | 17, _ | 18, _ | 19, _ | 20, _ | 21, _ | 22, _ | 23, _ | 24, _ | 25, _ | 26, _ | 27, _ | 28, _ | 29, _ | 30, _ | 31, _ => rfl | n + 32, h => exact absurd h (by omega))
theorem st_zero (w : World) : IsSt (w.alloc (.cells Tryz.zeroCells70 70)) w.heap.size (fun _ => false) (fun _ => false) (fun _ => false) := by
  exact ⟨_, blk_new w _, fun j hj => zero_cells.1 ⟨j, hj⟩, fun j hj => zero_cells.2.1 ⟨j, hj⟩, fun j hj => zero_cells.2.2 ⟨j, hj⟩⟩
set_option maxHeartbeats 8000000 in
set_option maxRecDepth 100000 in
theorem l05Answer_calls (A0 : Option Addr) (c0 : Nat) (l0 : List S41) (A1 : Option Addr) (c1 : Nat) (l1 : List Int) (w : World) (hr0 : Kd.C k41 w A0 l0.length l0) (hr1 : Kd.C (Kd.int .i64) w A1 l1.length l1)
    (hw : RuleWords l0) (hf : ∀ y ∈ l1, wordB y = true) :
    Calls Tryz.prog 41 #[.slice A0 l0.length c0, .slice A1 l1.length c1] w fun e w' => e = .returned (.pointer (some ⟨w.heap.size, 0, none⟩)) ∧ ∃ Y N F : Nat → Bool, IsSt w' w.heap.size Y N F ∧ Below w.heap.size w w' ∧
      (∀ x, wordB x = true → (Y (plc x) = true ↔ YesP l0 l1 x)) ∧ (∀ x, wordB x = true → (N (plc x) = true ↔ NoP l0 l1 x)) ∧ (∀ x, wordB x = true → (F (plc x) = true ↔ x ∈ l1)) := by
  have hm : l1.length ≤ 9223372036854775807 := C_len hr1
  have HR0 := Aside0.mk hr0
  have HR1 := Aside0.mk hr1
  have HF := Aside0.mk hf
  have HW := Aside0.mk hw
  clear hr0 hr1 hf hw
  obtain ⟨g, hg0⟩ : ∃ g, g = w.heap.size := ⟨_, rfl⟩
  have HG := Aside0.mk hg0
  clear hg0
  go_enter Tryz.func41, Tryz.ntmps41
  go_wp2
  go_loopg [6, 16] l1.length (fun gg _ s16 wr => ∃ n : Nat, ∃ Y N F : Nat → Bool, n ≤ l1.length ∧ l1.length - n ≤ gg ∧ s16 = .int .i64 n ∧ Aside0 (IsSt wr w.heap.size Y N F) ∧ Aside0 (Below w.heap.size w wr) ∧ Aside0 (Laid l1 n Y N F))
  case atStart =>
    exact ⟨0, fun _ => false, fun _ => false, fun _ => false, Nat.zero_le _, by omega, rfl, ⟨st_zero w⟩, ⟨below_alloc (Below.refl _ _) _⟩, ⟨laid_zero⟩⟩
  case round =>
    obtain ⟨n, Y, N, F, hn, hg, rfl, HS, HB, HL⟩ := hrel
    by_cases hlt : n < l1.length
    · have hltz : (n : Int) < (l1.length : Int) := by omega
      obtain ⟨y, hy⟩ : ∃ y, y = rd l1 (n : Int) := ⟨_, rfl⟩
      have hye : l1.getD n 0 = y := by rw [hy, rd_nat]
      have hwy := HF.out y (by rw [← hye]; simp [hlt])
      have hp32 := plc_lt hwy
      have hp32z : ((plc y : Nat) : Int) < 32 := by omega
      have hq32 := plc_lt (wordB_neg hwy)
      have hq32z : ((plc (-y) : Nat) : Int) < 32 := by omega
      have hneg : wrap64 (-y) = -y := by have hz := (wordB_iff y).1 hwy; exact wsm (by omega) (by omega)
      have hb1 : -16 ≤ y := by have hz := (wordB_iff y).1 hwy; omega
      have hb2 : y ≤ 16 := by have hz := (wordB_iff y).1 hwy; omega
      have K1 := Aside0.mk fun W => spec_l05Place.calls y ((plc y : Nat) : Int) W (place_eq hwy)
      have K2 := Aside0.mk fun W => spec_l05Place.calls (-y) ((plc (-y) : Nat) : Int) W (place_eq (wordB_neg hwy))
      have HX := Aside0.mk hye
      have HY := Aside0.mk hy
      have HWy := Aside0.mk hwy
      have HN := Aside0.mk (show IntKind.i64.wrap (-y) = -y by rw [IntKind.wrap_i64]; omega)
      clear hy hye hwy
      go_upto_region 5 with (fail)
      go_cut [16] (fun s16 wx => s16 = .int .i64 n ∧ Aside0 (IsSt wx w.heap.size (upd Y (plc y)) N F) ∧ Aside0 (Below w.heap.size w wx))
      case first =>
        obtain ⟨ad, eA, hc⟩ := Kd.at_int (Kd.C_below HR1.out HB.out) (n : Int) (by omega) hltz
        cases eA
        simp only [Int.toNat_natCast] at hc
        rw [← HY.out] at hc
        have hfz := HS.out.frozen (plc y)
        have hlv := HS.out.y hp32
        go_region_with (go_at_call 56; (with_reducible refine (K1.out _).mono ?_); rintro e w' ⟨rfl, ⟨nd, rfl⟩⟩)
        all_goals
          go_wp2_with fail
          go_meet
          exact ⟨rfl, ⟨(HS.out.drewN _).setY hp32⟩, ⟨below_set (pw_below_drewN HB.out _) (Nat.le_refl _)⟩⟩
      case rest =>
        obtain ⟨rfl, HS, HB⟩ := hcut
        go_upto_region 6 with (fail)
        go_cut [16] (fun s16 wx => s16 = .int .i64 n ∧ Aside0 (IsSt wx w.heap.size (upd Y (plc y)) N (upd F (plc y))) ∧ Aside0 (Below w.heap.size w wx))
        case first =>
          obtain ⟨ad, eA, hc⟩ := Kd.at_int (Kd.C_below HR1.out HB.out) (n : Int) (by omega) hltz
          cases eA
          simp only [Int.toNat_natCast] at hc
          rw [← HY.out] at hc
          have hfz := HS.out.frozen (64 + plc y)
          have hlv := HS.out.f hp32
          go_region_with (go_at_call 56; (with_reducible refine (K1.out _).mono ?_); rintro e w' ⟨rfl, ⟨nd, rfl⟩⟩)
          all_goals
            go_wp2_with fail
            go_meet
            exact ⟨rfl, ⟨(HS.out.drewN _).setF hp32⟩, ⟨below_set (pw_below_drewN HB.out _) (Nat.le_refl _)⟩⟩
        case rest =>
          obtain ⟨rfl, HS, HB⟩ := hcut
          go_upto_region 7 with (fail)
          obtain ⟨ad, eA, hc⟩ := Kd.at_int (Kd.C_below HR1.out HB.out) (n : Int) (by omega) hltz
          cases eA
          simp only [Int.toNat_natCast] at hc
          rw [← HY.out] at hc
          have hfz := HS.out.frozen (32 + plc (-y))
          have hlv := HS.out.n hq32
          go_region_with (go_at_call 56; (try rw [HN.out]); (with_reducible refine (K2.out _).mono ?_); rintro e w' ⟨rfl, ⟨nd, rfl⟩⟩)
          go_wp2
          go_roundg (l1.length - (n + 1))
          case measure => omega
          case rel => exact ⟨n + 1, _, _, _, by omega, by omega, by go_num, ⟨(HS.out.drewN _).setN hq32⟩, ⟨below_set (pw_below_drewN HB.out _) (Nat.le_refl _)⟩, ⟨laid_succ HL.out hlt HX.out HWy.out⟩⟩
    · have hltz : ¬ (n : Int) < (l1.length : Int) := by omega
      have : n = l1.length := by omega
      subst this
      have HBase := Aside0.mk (laid_based HL.out HF.out)
      have HSound := Aside0.mk (laid_sound (rules := l0) HL.out HF.out)
      have HFF := Aside0.mk (laid_facts HL.out)
      clear HL
      go_wp2
      go_loopg [7, 8, 9, 10, 11] (mu Y N + 1) (fun gg s7 _ _ _ _ wr => ∃ (b : Bool) (Y N : Nat → Bool), s7 = .bool b ∧ (b = true → mu Y N + 1 ≤ gg) ∧ Aside0 (IsSt wr w.heap.size Y N F) ∧ Aside0 (Below w.heap.size w wr) ∧ Aside0 (Sound l0 l1 Y N) ∧ Aside0 (Based l1 Y N) ∧ Aside0 (b = false → Final l0 l1 Y N))
      case atStart => exact ⟨true, Y, N, rfl, fun _ => Nat.le_refl _, HS, HB, HSound, HBase, ⟨fun e => by cases e⟩⟩
      case round =>
        clear HS HB HSound HBase
        obtain ⟨b, Y, N, rfl, hgm, HS, HB, HSound, HBase, HFin⟩ := hrel
        cases b with
        | false =>
          go_wp2
          go_ret
          exact ⟨rfl, Y, N, F, HS.out, HB.out, (HFin.out (by trivial)).1, (HFin.out (by trivial)).2, HFF.out⟩
        | true =>
          have hgm := hgm rfl
          have HM := Aside0.mk (Inv.begin_ HSound.out HBase.out)
          clear HFin HSound HBase
          obtain ⟨m0, hm0⟩ : ∃ m0, m0 = mu Y N := ⟨_, rfl⟩
          rw [← hm0] at HM hgm
          clear hm0
          go_wp2
          go_loopg [7, 8, 9, 10, 11] 16 (fun gg s7 s8 _ _ _ wr => ∃ (a : Nat) (b : Bool) (Y N : Nat → Bool), 1 ≤ a ∧ a ≤ 17 ∧ 17 - a ≤ gg ∧ s8 = .int .i64 a ∧ s7 = .bool b ∧ Aside0 (IsSt wr w.heap.size Y N F) ∧ Aside0 (Below w.heap.size w wr) ∧ Aside0 (Inv l0 l1 m0 b Y N (fun x => x ≠ 0 ∧ x.natAbs < a)))
          case atStart => exact ⟨1, false, Y, N, by omega, by omega, by omega, rfl, rfl, HS, HB, ⟨HM.out.mono_done (fun x hx => by omega)⟩⟩
          case round =>
            clear HS HB HM
            obtain ⟨a, b, Y, N, ha1, ha2, hga, rfl, rfl, HS, HB, HM⟩ := hrel
            by_cases hlt : a ≤ 16
            · have hltz : (a : Int) ≤ 16 := by omega
              go_wp2
              go_loopg [7, 9, 10, 11] 2 (fun gg s7 s9 _ _ wr => ∃ (k : Nat) (sd : Int) (b : Bool) (Y N : Nat → Bool), k ≤ 2 ∧ 2 - k ≤ gg ∧ sd = 1 - 2 * (k : Int) ∧ s9 = .int .i64 sd ∧ s7 = .bool b ∧ Aside0 (IsSt wr w.heap.size Y N F) ∧ Aside0 (Below w.heap.size w wr) ∧ Aside0 (Inv l0 l1 m0 b Y N (fun x => x ≠ 0 ∧ (x.natAbs < a ∨ (1 ≤ k ∧ x = a) ∨ (2 ≤ k ∧ x = -a)))))
              case atStart => exact ⟨0, 1, b, Y, N, by omega, by omega, by omega, rfl, rfl, HS, HB, ⟨HM.out.mono_done (fun x hx => by omega)⟩⟩
              case round =>
                clear HS HB HM
                obtain ⟨k, sd, b, Y, N, hk2, hgk, hsd, rfl, rfl, HS, HB, HM⟩ := hrel
                by_cases hk : k < 2
                · have hge : (-1 : Int) ≤ sd := by omega
                  obtain ⟨x, hx⟩ : ∃ x : Int, wrap64 (sd * (a : Int)) = x := ⟨_, rfl⟩
                  have hxa : x = if k = 0 then (a : Int) else -a := by
                    rw [← hx]
                    match k, hk, hsd with
                    | 0, _, h => obtain rfl : sd = 1 := by omega
                                 rw [wsm (by omega) (by omega)]; simp
                    | 1, _, h => obtain rfl : sd = -1 := by omega
                                 rw [wsm (by omega) (by omega)]; simp
                  have hxw : wordB x = true := (wordB_iff x).2 (by rw [hxa]; split <;> omega)
                  have hp32 := plc_lt hxw
                  have hp32z : ((plc x : Nat) : Int) < 32 := by omega
                  have hq32 := plc_lt (wordB_neg hxw)
                  have hq32z : ((plc (-x) : Nat) : Int) < 32 := by omega
                  have hneg : wrap64 (-x) = -x := by have hz := (wordB_iff x).1 hxw; exact wsm (by omega) (by omega)
                  have hb1 : -16 ≤ x := by have hz := (wordB_iff x).1 hxw; omega
                  have hb2 : x ≤ 16 := by have hz := (wordB_iff x).1 hxw; omega
                  have hsd2 : wrap64 (sd - 2) = 1 - 2 * ((k + 1 : Nat) : Int) := by rw [wsm (by omega) (by omega)]; omega
                  have HD := Aside0.mk (show ∀ z : Int, (z ≠ 0 ∧ (z.natAbs < a ∨ (1 ≤ k + 1 ∧ z = a) ∨ (2 ≤ k + 1 ∧ z = -a))) → (z ≠ 0 ∧ (z.natAbs < a ∨ (1 ≤ k ∧ z = a) ∨ (2 ≤ k ∧ z = -a))) ∨ z = x by
                    intro z hz
                    rw [hxa]
                    split <;> omega)
                  have K1 := Aside0.mk fun W => spec_l05Place.calls x ((plc x : Nat) : Int) W (place_eq hxw)
                  have K2 := Aside0.mk fun W => spec_l05Place.calls (-x) ((plc (-x) : Nat) : Int) W (place_eq (wordB_neg hxw))
                  have HXW := Aside0.mk hxw
                  have HN := Aside0.mk (show IntKind.i64.wrap (-x) = -x by rw [IntKind.wrap_i64]; omega)
                  clear hxa hxw hsd
                  have hc1 := HS.out.f hp32
                  have hc2 := HS.out.f hq32
                  cases hf1 : F (plc x) with
                  | true =>
                    rw [hf1] at hc1
                    have HX := Aside0.mk (HM.out.next (x := x) (fun _ h1 _ => absurd ((HFF.out x HXW.out).1 hf1) h1) HD.out)
                    clear hf1
                    go_wp2_with (go_at_call 56; (with_reducible refine (K1.out _).mono ?_); rintro e w' ⟨rfl, ⟨nd, rfl⟩⟩)
                    go_quiet (fail)
                    go_wp2
                    go_roundg (2 - (k + 1))
                    case measure => omega
                    case rel => exact ⟨k + 1, _, b, Y, N, by omega, by omega, rfl, by rw [hsd2], rfl, ⟨HS.out.drewN _⟩, ⟨pw_below_drewN HB.out _⟩, HX⟩
                  | false =>
                    rw [hf1] at hc1
                    cases hf2 : F (plc (-x)) with
                    | true =>
                      rw [hf2] at hc2
                      have HX := Aside0.mk (HM.out.next (x := x) (fun _ _ h2 => absurd ((HFF.out (-x) (wordB_neg HXW.out)).1 hf2) h2) HD.out)
                      clear hf1 hf2
                      go_wp2_with (go_at_call 56; (with_reducible refine (K1.out _).mono ?_); rintro e w' ⟨rfl, ⟨nd, rfl⟩⟩)
                      go_quiet ((go_at_call 56; (try rw [HN.out]); (with_reducible refine (K2.out _).mono ?_); rintro e w' ⟨rfl, ⟨nd2, rfl⟩⟩; exact ⟨rfl, _, by rw [World.drewN_drewN, Nat.add_assoc]⟩))
                      go_wp2
                      go_roundg (2 - (k + 1))
                      case measure => omega
                      case rel => exact ⟨k + 1, _, b, Y, N, by omega, by omega, rfl, by rw [hsd2], rfl, ⟨HS.out.drewN _⟩, ⟨pw_below_drewN HB.out _⟩, HX⟩
                    | false =>
                      rw [hf2] at hc2
                      have HN1 := Aside0.mk (show x ∉ l1 from fun hm => by rw [(HFF.out x HXW.out).2 hm] at hf1; cases hf1)
                      have HN2 := Aside0.mk (show -x ∉ l1 from fun hm => by rw [(HFF.out (-x) (wordB_neg HXW.out)).2 hm] at hf2; cases hf2)
                      clear hf1 hf2
                      go_upto_region 20 with (go_at_call 56; (with_reducible refine (K1.out _).mono ?_); rintro e w' ⟨rfl, ⟨nd, rfl⟩⟩)
                      go_quiet ((go_at_call 56; (try rw [HN.out]); (with_reducible refine (K2.out _).mono ?_); rintro e w' ⟨rfl, ⟨nd2, rfl⟩⟩; exact ⟨rfl, _, by rw [World.drewN_drewN, Nat.add_assoc]⟩))
                      go_upto_region 21 with (fail)
                      obtain ⟨t, ht⟩ : ∃ t, t = (!Y (plc x) && provedB (fun y => Y (plc y)) (fun y => N (plc y)) l0 x) := ⟨_, rfl⟩
                      have HT := Aside0.mk ht
                      clear ht
                      go_cut [90] (fun s90 wx => s90 = .bool t ∧ Aside0 (IsSt wx w.heap.size Y N F) ∧ Aside0 (Below w.heap.size w wx))
                      case first =>
                        have hcy := HS.out.y hp32
                        cases hy : Y (plc x) with
                        | true =>
                          rw [hy] at hcy
                          have HT := Aside0.mk (HT.out.trans (by rw [hy]; rfl : _ = false))
                          clear hy
                          go_wp2
                          go_meet
                          case rel => exact ⟨by rw [HT.out], ⟨HS.out.drewN _⟩, ⟨pw_below_drewN HB.out _⟩⟩
                        | false =>
                          rw [hy] at hcy
                          have HT := Aside0.mk (HT.out.trans (by rw [hy]; rfl : _ = provedB (fun y => Y (plc y)) (fun y => N (plc y)) l0 x))
                          clear hy
                          have KP := Aside0.mk fun q => l05Proved_calls w.heap.size Y N A0 c0 l0 x (wr.drewN q) (Kd.C_below HR0.out (pw_below_drewN HB.out q)) (fun j hj => (HS.out.drewN q).y hj) (fun j hj => (HS.out.drewN q).n hj) HW.out hb1 hb2
                          go_wp2_with (go_at_call 82; (with_reducible refine (KP.out _).mono ?_); rintro e w' ⟨rfl, ⟨nd2, rfl⟩⟩)
                          go_meet
                          case rel => exact ⟨by rw [HT.out], ⟨(HS.out.drewN _)⟩, ⟨pw_below_drewN HB.out _⟩⟩
                      case rest =>
                        clear hc1 hc2 HS HB
                        obtain ⟨rfl, HS, HB⟩ := hcut
                        cases t with
                        | false =>
                          have H1 := HM.out.step_yes0 (x := x) HT.out
                          have HM2 := Aside0.mk H1
                          clear H1 HT HM
                          obtain ⟨t2, ht2⟩ : ∃ t2, t2 = (!N (plc x) && disprovedB (fun y => Y (plc y)) (fun y => N (plc y)) l0 x) := ⟨_, rfl⟩
                          have HT2 := Aside0.mk ht2
                          clear ht2
                          go_upto_region 24 with (fail)
                          go_cut [108] (fun s108 wx => s108 = .bool t2 ∧ Aside0 (IsSt wx w.heap.size Y N F) ∧ Aside0 (Below w.heap.size w wx))
                          case first =>
                            have hcn := HS.out.n hp32
                            cases hn : N (plc x) with
                            | true =>
                              rw [hn] at hcn
                              have HT2 := Aside0.mk (HT2.out.trans (by rw [hn]; rfl : _ = false))
                              clear hn
                              go_wp2
                              go_meet
                              case rel => exact ⟨by rw [HT2.out], HS, HB⟩
                            | false =>
                              rw [hn] at hcn
                              have HT2 := Aside0.mk (HT2.out.trans (by rw [hn]; rfl : _ = disprovedB (fun y => Y (plc y)) (fun y => N (plc y)) l0 x))
                              clear hn
                              have KP := Aside0.mk (l05Disproved_calls w.heap.size Y N A0 c0 l0 x _ (Kd.C_below HR0.out HB.out) (fun j hj => HS.out.y hj) (fun j hj => HS.out.n hj) HW.out hb1 hb2)
                              go_wp2_with (go_at_call 83; (with_reducible refine KP.out.mono ?_); rintro e w' ⟨rfl, ⟨nd2, rfl⟩⟩)
                              go_meet
                              case rel => exact ⟨by rw [HT2.out], ⟨HS.out.drewN _⟩, ⟨pw_below_drewN HB.out _⟩⟩
                          case rest =>
                            clear HS HB
                            obtain ⟨rfl, HS, HB⟩ := hcut
                            cases t2 with
                            | false =>
                              have HX := Aside0.mk (HM2.out.step_no0 HT2.out (x := x) HD.out)
                              clear HT2
                              go_wp2
                              go_roundg (2 - (k + 1))
                              case measure => omega
                              case rel => exact ⟨k + 1, _, _, Y, N, by omega, by omega, rfl, by rw [hsd2], rfl, HS, HB, HX⟩
                            | true =>
                              have hz := ht_true HT2.out
                              have HX := Aside0.mk (HM2.out.inv.no HW.out HXW.out HN1.out HN2.out hz.1 hz.2 (fun z => (z ≠ 0 ∧ (z.natAbs < a ∨ (1 ≤ k + 1 ∧ z = a) ∨ (2 ≤ k + 1 ∧ z = -a)))))
                              clear hz HT2
                              have hfz := HS.out.frozen (32 + plc x)
                              have hlv := HS.out.n hp32
                              go_wp2
                              go_roundg (2 - (k + 1))
                              case measure => omega
                              case rel => exact ⟨k + 1, _, true, Y, _, by omega, by omega, rfl, by rw [hsd2], rfl, ⟨HS.out.setN hp32⟩, ⟨below_set HB.out (Nat.le_refl _)⟩, HX⟩
                        | true =>
                          have hz := ht_true HT.out
                          have H1 := HM.out.step_yes1 HW.out HXW.out HN1.out HN2.out hz.1 hz.2
                          have HM2 := Aside0.mk H1
                          clear H1 hz HT HM
                          have hfz := HS.out.frozen (plc x)
                          have hlv := HS.out.y hp32
                          have HS := Aside0.mk (HS.out.setY hp32)
                          have HB := Aside0.mk (below_set (j := plc x) (v := .bool true) HB.out (Nat.le_refl _))
                          obtain ⟨t2, ht2⟩ : ∃ t2, t2 = (!N (plc x) && disprovedB (fun y => (upd Y (plc x)) (plc y)) (fun y => N (plc y)) l0 x) := ⟨_, rfl⟩
                          have HT2 := Aside0.mk ht2
                          clear ht2
                          go_upto_region 24 with (fail)
                          go_cut [108] (fun s108 wx => s108 = .bool t2 ∧ Aside0 (IsSt wx w.heap.size (upd Y (plc x)) N F) ∧ Aside0 (Below w.heap.size w wx))
                          case first =>
                            have hcn := HS.out.n hp32
                            cases hn : N (plc x) with
                            | true =>
                              rw [hn] at hcn
                              have HT2 := Aside0.mk (HT2.out.trans (by rw [hn]; rfl : _ = false))
                              clear hn
                              go_wp2
                              go_meet
                              case rel => exact ⟨by rw [HT2.out], HS, HB⟩
                            | false =>
                              rw [hn] at hcn
                              have HT2 := Aside0.mk (HT2.out.trans (by rw [hn]; rfl : _ = disprovedB (fun y => (upd Y (plc x)) (plc y)) (fun y => N (plc y)) l0 x))
                              clear hn
                              have KP := Aside0.mk (l05Disproved_calls w.heap.size (upd Y (plc x)) N A0 c0 l0 x _ (Kd.C_below HR0.out HB.out) (fun j hj => HS.out.y hj) (fun j hj => HS.out.n hj) HW.out hb1 hb2)
                              go_wp2_with (go_at_call 83; (with_reducible refine KP.out.mono ?_); rintro e w' ⟨rfl, ⟨nd2, rfl⟩⟩)
                              go_meet
                              case rel => exact ⟨by rw [HT2.out], ⟨HS.out.drewN _⟩, ⟨pw_below_drewN HB.out _⟩⟩
                          case rest =>
                            clear HS HB
                            obtain ⟨rfl, HS, HB⟩ := hcut
                            cases t2 with
                            | false =>
                              have HX := Aside0.mk (HM2.out.step_no0 HT2.out (x := x) HD.out)
                              clear HT2
                              go_wp2
                              go_roundg (2 - (k + 1))
                              case measure => omega
                              case rel => exact ⟨k + 1, _, _, (upd Y (plc x)), N, by omega, by omega, rfl, by rw [hsd2], rfl, HS, HB, HX⟩
                            | true =>
                              have hz := ht_true HT2.out
                              have HX := Aside0.mk (HM2.out.inv.no HW.out HXW.out HN1.out HN2.out hz.1 hz.2 (fun z => (z ≠ 0 ∧ (z.natAbs < a ∨ (1 ≤ k + 1 ∧ z = a) ∨ (2 ≤ k + 1 ∧ z = -a)))))
                              clear hz HT2
                              have hfz := HS.out.frozen (32 + plc x)
                              have hlv := HS.out.n hp32
                              go_wp2
                              go_roundg (2 - (k + 1))
                              case measure => omega
                              case rel => exact ⟨k + 1, _, true, (upd Y (plc x)), _, by omega, by omega, rfl, by rw [hsd2], rfl, ⟨HS.out.setN hp32⟩, ⟨below_set HB.out (Nat.le_refl _)⟩, HX⟩
                · have hge : ¬ (-1 : Int) ≤ sd := by omega
                  have hk : k = 2 := by omega
                  subst hk
                  have HX := Aside0.mk (HM.out.mono_done (done' := fun z => z ≠ 0 ∧ z.natAbs < a + 1) (fun z hz => by omega))
                  clear hsd
                  go_wp2
                  go_roundg (17 - (a + 1))
                  case measure => omega
                  case rel => exact ⟨a + 1, b, Y, N, by omega, by omega, by omega, by go_num, rfl, HS, HB, HX⟩
            · have hltz : ¬ (a : Int) ≤ 16 := by omega
              have HDn := Aside0.mk (show ∀ z, wordB z = true → z ≠ 0 ∧ z.natAbs < a from fun z hz => by have := (wordB_iff z).1 hz; omega)
              cases b with
              | true =>
                have hless := HM.out.less rfl
                go_wp2
                go_roundg (mu Y N + 1)
                case measure => omega
                case rel => exact ⟨true, Y, N, rfl, fun _ => Nat.le_refl _, HS, HB, ⟨HM.out.sound⟩, ⟨HM.out.based⟩, ⟨fun e => by cases e⟩⟩
              | false =>
                have HE := Aside0.mk (HM.out.ends HDn.out)
                go_wp2
                go_roundg 0
                case measure => omega
                case rel => exact ⟨false, Y, N, rfl, (fun e => by cases e), HS, HB, ⟨HM.out.sound⟩, ⟨HM.out.based⟩, ⟨fun _ => HE.out⟩⟩
end Go.Proofs.YtoippneeagaceaaGreat.PR

namespace Go.Proofs.YtoippneeagaceaaGreat.PR
open Go.RowKit Go.Shelf Go.Proofs.YtoippneeagaceaaGreatW.PrintWords Go.Proofs.YtoippneeagaceaaGreatW.PrintLast Go.Proofs.YtoippneeagaceaaGreatW.PrintMore
set_option linter.unusedVariables false
set_option linter.unusedSimpArgs false
/-- The words of the first n atoms, the atom first. -/
def wordsTo : Nat → List Int
  | 0 => []
  | n + 1 => wordsTo n ++ [((n + 1 : Nat) : Int), -((n + 1 : Nat) : Int)]
theorem filter_pair {p : Int → Bool} {l : List Int} {a b : Int} : (l ++ [a, b]).filter p = l.filter p ++ ((if p a then [a] else []) ++ (if p b then [b] else [])) := by
  rw [List.filter_append]
  congr 1
  simp only [List.filter_cons, List.filter_nil]
  cases p a <;> cases p b <;> rfl
theorem wordsTo_len (n : Nat) : (wordsTo n).length = 2 * n := by induction n with
  | zero => rfl
  | succ n ih => rw [wordsTo, List.length_append, ih]; simp; omega
set_option maxHeartbeats 8000000 in
set_option maxRecDepth 100000 in
theorem l05List_calls (g o : Nat) (Y : Nat → Bool) (w : World) (hY : ∀ j, j < 32 → w.cell? ⟨g, o + j, none⟩ = some (.bool (Y j))) :
    Calls Tryz.prog 43 #[.pointer (some ⟨g, o, none⟩)] w fun e w' => ∃ v0_ : Value, e = .returned v0_ ∧ Kd.R (Kd.int .i64) 2 w' w.heap.size (fun _ => True) v0_ ((wordsTo 16).filter fun x => Y (plc x)) ∧ Below w.heap.size w w' := by
  have HY := Aside0.mk hY
  clear hY
  go_enter Tryz.func43, Tryz.ntmps43
  go_wp2
  go_loopg [3, 4] 16 (fun gg v3 s4 wr => ∃ (n : Nat) (xs : List Int), n ≤ 16 ∧ 16 - n ≤ gg ∧ s4 = .int .i64 ((n + 1 : Nat) : Int) ∧ Aside0 (Kd.R (Kd.int .i64) 2 wr w.heap.size (fun _ => True) v3 xs) ∧ Aside0 (Below w.heap.size w wr) ∧ Aside0 (xs = (wordsTo n).filter (fun x => Y (plc x))))
  case atStart => exact ⟨0, [], Nat.zero_le _, by omega, rfl, ⟨R_empty (Kd.int .i64) 2 _ _ _ (by simp) trivial⟩, ⟨below_alloc (Below.refl _ _) _⟩, ⟨rfl⟩⟩
  case round =>
    obtain ⟨n, xs, hn, hg, rfl, HO, HB, HI⟩ := hrel
    obtain ⟨a, ha⟩ : ∃ a : Int, a = ((n + 1 : Nat) : Int) := ⟨_, rfl⟩
    rw [← ha]
    by_cases hlt : n < 16
    · have hltz : a ≤ 16 := by omega
      have hxw : wordB a = true := (wordB_iff a).2 (by omega)
      have hp32 := plc_lt hxw
      have hp32z : ((plc a : Nat) : Int) < 32 := by omega
      have hq32 := plc_lt (wordB_neg hxw)
      have hq32z : ((plc (-a) : Nat) : Int) < 32 := by omega
      have hneg : wrap64 (-a) = -a := wsm (by omega) (by omega)
      have HN := Aside0.mk (show IntKind.i64.wrap (-a) = -a by rw [IntKind.wrap_i64]; omega)
      have K1 := Aside0.mk fun W => spec_l05Place.calls a ((plc a : Nat) : Int) W (place_eq hxw)
      have K2 := Aside0.mk fun W => spec_l05Place.calls (-a) ((plc (-a) : Nat) : Int) W (place_eq (wordB_neg hxw))
      have HA := Aside0.mk ha
      have hnext : wrap64 (a + 1) = ((n + 1 + 1 : Nat) : Int) := by rw [wsm (by omega) (by omega)]; omega
      have HL := Aside0.mk (show xs.length ≤ 32 by rw [HI.out]; have := List.length_filter_le (fun x => Y (plc x)) (wordsTo n); rw [wordsTo_len] at this; omega)
      have hc1 := (HB.out.cell (World.block_lt_of_cell? w _ (HY.out _ hp32))).trans (HY.out _ hp32)
      have hc2 := (HB.out.cell (World.block_lt_of_cell? w _ (HY.out _ hq32))).trans (HY.out _ hq32)
      clear ha hxw
      cases hy1 : Y (plc a) with
      | true =>
        rw [hy1] at hc1
        cases hy2 : Y (plc (-a)) with
        | true =>
          rw [hy2] at hc2
          have h2v := hy2
          have HE := Aside0.mk (show xs ++ [a] ++ [-a] = (wordsTo (n + 1)).filter (fun x => Y (plc x)) by rw [wordsTo, filter_pair, ← HI.out, ← HA.out, hy1, hy2]; simp)
          clear hy1 hy2
          go_wp2
          go_quiet ((go_at_call 56; (with_reducible refine (K1.out _).mono ?_); rintro e w' ⟨rfl, ⟨nd, rfl⟩⟩; exact ⟨rfl, _, by first | exact World.drewN_drewN _ _ _ | rw [World.drewN_drewN, Nat.add_assoc]⟩))
          go_upto_region 7 with ((at_builtin; refine Kd.R_append (Kd.int .i64) (w0 := w) w.heap.size rfl (.tmp 16) (.tmp 18) 26 2 (.int .i64 0) 8 rfl Tryz.underlying26 info2 rfl (by decide) (by omega) _ xs a [.int .i64 a] (fun _ => True) (fun _ => False) rfl rfl rfl (fun _ hk => hk.elim) (fun _ _ => trivial) (by (with_reducible repeat (first | apply Kd.R_alloc | apply Kd.R_drewN | apply Kd.R_drew)); exact HO.out) (by repeat (first | exact HB.out | apply below_alloc | apply pw_below_drewN)) (by have := HB.out.size; simp; omega) (by have := HL.out; simp; omega) ?_; intro v1 w1 ho hb hg2 hat; have HO2 := Aside0.mk ho; have HB2 := Aside0.mk hb; clear ho hb hg2 hat))
          have hc2 := (HB2.out.cell (World.block_lt_of_cell? w _ (HY.out _ hq32))).trans (HY.out _ hq32)
          rw [h2v] at hc2
          go_quiet ((go_at_call 56; (try rw [HN.out]); (with_reducible refine (K2.out _).mono ?_); rintro e w' ⟨rfl, ⟨nd, rfl⟩⟩; exact ⟨rfl, _, by first | exact World.drewN_drewN _ _ _ | rw [World.drewN_drewN, Nat.add_assoc]⟩))
          go_wp2_with ((at_builtin; refine Kd.R_append (Kd.int .i64) (w0 := w) w.heap.size rfl (.tmp 27) (.tmp 30) 26 2 (.int .i64 0) 8 rfl Tryz.underlying26 info2 rfl (by decide) (by omega) _ _ (-a) [.int .i64 (-a)] (fun _ => True) (fun _ => False) rfl rfl rfl (fun _ hk => hk.elim) (fun _ _ => trivial) (by (with_reducible repeat (first | apply Kd.R_alloc | apply Kd.R_drewN | apply Kd.R_drew)); exact HO2.out) (by repeat (first | exact HB2.out | apply below_alloc | apply pw_below_drewN)) (by have := HB2.out.size; simp; omega) (by have := HL.out; simp; omega) ?_; intro v1 w1 ho hb hg2 hat; have HO3 := Aside0.mk ho; have HB3 := Aside0.mk hb; clear ho hb hg2 hat))
          go_roundg (16 - (n + 1))
          case measure => omega
          case rel => exact ⟨n + 1, xs ++ [a] ++ [-a], by omega, by omega, by rw [hnext], ⟨by (with_reducible repeat (first | apply Kd.R_alloc | apply Kd.R_drewN | apply Kd.R_drew)); exact HO3.out⟩, ⟨by repeat (first | exact HB3.out | apply below_alloc | apply pw_below_drewN)⟩, HE⟩
        | false =>
          rw [hy2] at hc2
          have h2v := hy2
          have HE := Aside0.mk (show xs ++ [a] = (wordsTo (n + 1)).filter (fun x => Y (plc x)) by rw [wordsTo, filter_pair, ← HI.out, ← HA.out, hy1, hy2]; simp)
          clear hy1 hy2
          go_wp2
          go_quiet ((go_at_call 56; (with_reducible refine (K1.out _).mono ?_); rintro e w' ⟨rfl, ⟨nd, rfl⟩⟩; exact ⟨rfl, _, by first | exact World.drewN_drewN _ _ _ | rw [World.drewN_drewN, Nat.add_assoc]⟩))
          go_upto_region 7 with ((at_builtin; refine Kd.R_append (Kd.int .i64) (w0 := w) w.heap.size rfl (.tmp 16) (.tmp 18) 26 2 (.int .i64 0) 8 rfl Tryz.underlying26 info2 rfl (by decide) (by omega) _ xs a [.int .i64 a] (fun _ => True) (fun _ => False) rfl rfl rfl (fun _ hk => hk.elim) (fun _ _ => trivial) (by (with_reducible repeat (first | apply Kd.R_alloc | apply Kd.R_drewN | apply Kd.R_drew)); exact HO.out) (by repeat (first | exact HB.out | apply below_alloc | apply pw_below_drewN)) (by have := HB.out.size; simp; omega) (by have := HL.out; simp; omega) ?_; intro v1 w1 ho hb hg2 hat; have HO2 := Aside0.mk ho; have HB2 := Aside0.mk hb; clear ho hb hg2 hat))
          have hc2 := (HB2.out.cell (World.block_lt_of_cell? w _ (HY.out _ hq32))).trans (HY.out _ hq32)
          rw [h2v] at hc2
          go_quiet ((go_at_call 56; (try rw [HN.out]); (with_reducible refine (K2.out _).mono ?_); rintro e w' ⟨rfl, ⟨nd, rfl⟩⟩; exact ⟨rfl, _, by first | exact World.drewN_drewN _ _ _ | rw [World.drewN_drewN, Nat.add_assoc]⟩))
          go_wp2
          go_roundg (16 - (n + 1))
          case measure => omega
          case rel => exact ⟨n + 1, xs ++ [a], by omega, by omega, by rw [hnext], ⟨by (with_reducible repeat (first | apply Kd.R_alloc | apply Kd.R_drewN | apply Kd.R_drew)); exact HO2.out⟩, ⟨by repeat (first | exact HB2.out | apply below_alloc | apply pw_below_drewN)⟩, HE⟩
      | false =>
        rw [hy1] at hc1
        cases hy2 : Y (plc (-a)) with
        | true =>
          rw [hy2] at hc2
          have h2v := hy2
          have HE := Aside0.mk (show xs ++ [-a] = (wordsTo (n + 1)).filter (fun x => Y (plc x)) by rw [wordsTo, filter_pair, ← HI.out, ← HA.out, hy1, hy2]; simp)
          clear hy1 hy2
          go_wp2
          go_quiet ((go_at_call 56; (with_reducible refine (K1.out _).mono ?_); rintro e w' ⟨rfl, ⟨nd, rfl⟩⟩; exact ⟨rfl, _, by first | exact World.drewN_drewN _ _ _ | rw [World.drewN_drewN, Nat.add_assoc]⟩))
          go_upto_region 7 with (fail)
          go_quiet ((go_at_call 56; (try rw [HN.out]); (with_reducible refine (K2.out _).mono ?_); rintro e w' ⟨rfl, ⟨nd, rfl⟩⟩; exact ⟨rfl, _, by first | exact World.drewN_drewN _ _ _ | rw [World.drewN_drewN, Nat.add_assoc]⟩))
          go_wp2_with ((at_builtin; refine Kd.R_append (Kd.int .i64) (w0 := w) w.heap.size rfl (.tmp 27) (.tmp 30) 26 2 (.int .i64 0) 8 rfl Tryz.underlying26 info2 rfl (by decide) (by omega) _ _ (-a) [.int .i64 (-a)] (fun _ => True) (fun _ => False) rfl rfl rfl (fun _ hk => hk.elim) (fun _ _ => trivial) (by (with_reducible repeat (first | apply Kd.R_alloc | apply Kd.R_drewN | apply Kd.R_drew)); exact HO.out) (by repeat (first | exact HB.out | apply below_alloc | apply pw_below_drewN)) (by have := HB.out.size; simp; omega) (by have := HL.out; simp; omega) ?_; intro v1 w1 ho hb hg2 hat; have HO3 := Aside0.mk ho; have HB3 := Aside0.mk hb; clear ho hb hg2 hat))
          go_roundg (16 - (n + 1))
          case measure => omega
          case rel => exact ⟨n + 1, xs ++ [-a], by omega, by omega, by rw [hnext], ⟨by (with_reducible repeat (first | apply Kd.R_alloc | apply Kd.R_drewN | apply Kd.R_drew)); exact HO3.out⟩, ⟨by repeat (first | exact HB3.out | apply below_alloc | apply pw_below_drewN)⟩, HE⟩
        | false =>
          rw [hy2] at hc2
          have h2v := hy2
          have HE := Aside0.mk (show xs = (wordsTo (n + 1)).filter (fun x => Y (plc x)) by rw [wordsTo, filter_pair, ← HI.out, ← HA.out, hy1, hy2]; simp)
          clear hy1 hy2
          go_wp2
          go_quiet ((go_at_call 56; (with_reducible refine (K1.out _).mono ?_); rintro e w' ⟨rfl, ⟨nd, rfl⟩⟩; exact ⟨rfl, _, by first | exact World.drewN_drewN _ _ _ | rw [World.drewN_drewN, Nat.add_assoc]⟩))
          go_upto_region 7 with (fail)
          go_quiet ((go_at_call 56; (try rw [HN.out]); (with_reducible refine (K2.out _).mono ?_); rintro e w' ⟨rfl, ⟨nd, rfl⟩⟩; exact ⟨rfl, _, by first | exact World.drewN_drewN _ _ _ | rw [World.drewN_drewN, Nat.add_assoc]⟩))
          go_wp2
          go_roundg (16 - (n + 1))
          case measure => omega
          case rel => exact ⟨n + 1, xs, by omega, by omega, by rw [hnext], ⟨by (with_reducible repeat (first | apply Kd.R_alloc | apply Kd.R_drewN | apply Kd.R_drew)); exact HO.out⟩, ⟨by repeat (first | exact HB.out | apply below_alloc | apply pw_below_drewN)⟩, HE⟩
    · have hltz : ¬ a ≤ 16 := by omega
      have : n = 16 := by omega
      subst this
      have HE := HI.out
      clear ha
      go_wp2
      go_ret
      exact ⟨_, rfl, by rw [← HE]; exact HO.out, HB.out⟩
theorem IsSt.drew {W : World} {g : Nat} {Y N F : Nat → Bool} (h : IsSt W g Y N F) : IsSt W.drew g Y N F := by obtain ⟨cs, h0, h1⟩ := h.ex; exact ⟨cs, blk_drew h0, h1⟩
/-- The words of which P holds, in order. -/
noncomputable def wordsOf (P : Int → Prop) : List Int := (wordsTo 16).filter (fun x => @decide (P x) (Classical.propDecidable _))
/-- What is answered of rules, facts and a day. -/
noncomputable def spec_AnswersOf.f (l0 : List S41) (l1 : List Int) (a2 : Int) : Option (List Int × List Int × Bool) :=
  if rulesB l0 && (wordsB l1 && dayB a2) then some (wordsOf (YesP (l0.filter (onB a2)) l1), wordsOf (NoP (l0.filter (onB a2)) l1), true) else some ([], [], false)
theorem wordsTo_word {n : Nat} (h : n ≤ 16) {x : Int} (hx : x ∈ wordsTo n) : wordB x = true := by
  induction n with
  | zero => simp [wordsTo] at hx
  | succ n ih =>
    rw [wordsTo, List.mem_append] at hx
    rcases hx with hx | hx
    · exact ih (by omega) hx
    · rw [wordB_iff]
      rcases List.mem_cons.1 hx with rfl | hx
      · omega
      · rw [List.mem_singleton] at hx; omega
theorem filter_told {Y : Nat → Bool} {P : Int → Prop} (h : ∀ x, wordB x = true → (Y (plc x) = true ↔ P x)) : (wordsTo 16).filter (fun x => Y (plc x)) = wordsOf P := by
  refine List.filter_congr fun x hx => ?_
  have := h x (wordsTo_word (by omega) hx)
  by_cases hp : P x
  · rw [this.2 hp]; exact (@decide_eq_true _ (Classical.propDecidable _) hp).symm
  · rw [@decide_eq_false _ (Classical.propDecidable _) hp]
    cases hq : Y (plc x) with
    | true => exact absurd (this.1 hq) hp
    | false => rfl
theorem from_mem {l : List Int} : ∀ {p : Int}, wordsFrom p l = true → ∀ y ∈ l, wordB y = true := by
  induction l with
  | nil => intro p _ y hy; cases hy
  | cons x r ih =>
    intro p h y hy
    unfold wordsFrom at h
    rw [Bool.and_eq_true, Bool.and_eq_true] at h
    rcases List.mem_cons.1 hy with rfl | hy
    · exact h.1
    · exact ih h.2.2 y hy
theorem words_mem {l : List Int} (h : wordsB l = true) : ∀ y ∈ l, wordB y = true := from_mem h
theorem rule_words {r : S41} (h : ruleB r = true) : wordB r.f0 = true ∧ ∀ y ∈ r.f1, wordB y = true := by
  unfold ruleB at h
  rw [Bool.and_eq_true, Bool.and_eq_true, Bool.and_eq_true] at h
  exact ⟨h.1, words_mem h.2.1.2⟩
theorem rules_words {l : List S41} (h : rulesB l = true) : RuleWords l := by
  intro r hr
  unfold rulesB at h
  rw [Bool.and_eq_true, List.all_eq_true] at h
  exact (rule_words (h.2 r hr)).2
theorem own_C {w w' : World} {base : Nat} {v : Value} {xs : List S41} (h : OwnRow (k41.K w) 41 5 w' base v xs) (hb : Below w.heap.size w w') : ∃ A c, v = .slice A xs.length c ∧ xs.length ≤ c ∧ Kd.C k41 w' A xs.length xs := by
  obtain ⟨A, c, e, hl, hr⟩ := OwnRow.reads h
  exact ⟨A, c, e, hl, ReadsRow.imp_ hr (Below.refl _ _) (fun _ _ hp => k41.K_below hb hp)⟩
set_option maxHeartbeats 4000000 in
set_option maxRecDepth 100000 in
theorem l05Can_calls (A0 : Option Addr) (c0 : Nat) (l0 : List S41) (A1 : Option Addr) (c1 : Nat) (l1 : List Int) (a2 : Int) (w : World) (hr0 : Kd.C k41 w A0 l0.length l0) (hc0 : l0.length ≤ c0) (hr1 : Kd.C (Kd.int .i64) w A1 l1.length l1) (hc1 : l1.length ≤ c1) :
    Calls Tryz.prog 40 #[.slice A0 l0.length c0, .slice A1 l1.length c1, .int .i64 a2] w fun e w' => e = .returned (.bool (rulesB l0 && (wordsB l1 && dayB a2))) ∧ Drawn0 w w' := by
  have K1 := Aside0.mk fun W (hB : Below w.heap.size w W) => spec_l05Rules.calls A0 c0 l0 (rulesB l0) W (Kd.C_below hr0 hB) hc0 rfl
  have K2 := Aside0.mk fun W (hB : Below w.heap.size w W) => spec_l05Words.calls (l1.length + 1) A1 c1 l1 (wordsB l1) W (Kd.C_below hr1 hB) hc1 (words_eq l1 (C_len hr1) _ (Nat.lt_succ_self _))
  have K3 := Aside0.mk fun W => spec_l05Day.calls a2 (dayB a2) W (day_eq a2)
  clear hr0 hr1
  cases h1 : rulesB l0 <;> rw [h1] at K1 <;> cases h2 : wordsB l1 <;> rw [h2] at K2 <;> cases h3 : dayB a2 <;> rw [h3] at K3 <;> clear h1 h2 h3 <;>
  · go_enter Tryz.func40, Tryz.ntmps40
    go_wp2_with (first
      | (go_at_call 31; (with_reducible refine (K1.out _ (Below.refl _ _)).mono ?_); rintro e w' ⟨rfl, ⟨nd, rfl⟩⟩)
      | (go_at_call 81; (with_reducible refine (K2.out _ (by repeat (first | exact Below.refl _ _ | apply pw_below_drewN))).mono ?_); rintro e w' ⟨rfl, ⟨nd, rfl⟩⟩)
      | (go_at_call 38; (with_reducible refine (K3.out _).mono ?_); rintro e w' ⟨rfl, ⟨nd, rfl⟩⟩))
    go_ret
    exact ⟨rfl, by repeat (first | exact Drawn0.refl _ | apply Drawn0.step)⟩
set_option maxHeartbeats 8000000 in
set_option maxRecDepth 100000 in
theorem spec_AnswersOf.calls (A0 : Option Addr) (c0 : Nat) (l0 : List S41) (A1 : Option Addr) (c1 : Nat) (l1 : List Int) (a2 : Int) (r1 r2 : List Int) (r3 : Bool) (w : World) (hr0 : Kd.C k41 w A0 l0.length l0) (hc0 : l0.length ≤ c0) (hr1 : Kd.C (Kd.int .i64) w A1 l1.length l1) (hc1 : l1.length ≤ c1) (h : spec_AnswersOf.f l0 l1 a2 = some (r1, r2, r3)) :
    Calls Tryz.prog 14 #[.slice A0 l0.length c0, .slice A1 l1.length c1, .int .i64 a2] w fun e w' => ∃ v0_ v1_ : Value, e = .returned (.tuple #[v0_, v1_, .bool r3]) ∧ Kd.R (Kd.int .i64) 2 w' w.heap.size (fun k_ => some k_ ≠ (v1_ : Value).ownBlock) v0_ r1 ∧ Kd.R (Kd.int .i64) 2 w' w.heap.size (fun k_ => some k_ ≠ (v0_ : Value).ownBlock) v1_ r2 ∧ Below w.heap.size w w' := by
  unfold spec_AnswersOf.f at h
  obtain ⟨b, hb⟩ : ∃ b, b = (rulesB l0 && (wordsB l1 && dayB a2)) := ⟨_, rfl⟩
  rw [← hb] at h
  have KC := Aside0.mk fun W (hB : Below w.heap.size w W) => l05Can_calls A0 c0 l0 A1 c1 l1 a2 W (Kd.C_below hr0 hB) hc0 (Kd.C_below hr1 hB) hc1
  rw [← hb] at KC
  cases b with
  | false =>
    obtain ⟨rfl, rfl, rfl⟩ : [] = r1 ∧ [] = r2 ∧ false = r3 := by simpa using h
    clear h hb hr0 hr1
    go_enter Tryz.func14, Tryz.ntmps14
    go_wp2_with (go_at_call 40; (with_reducible refine (KC.out _ (Below.refl _ _)).mono ?_); rintro e w' ⟨rfl, ⟨nd, rfl⟩⟩)
    go_ret3
    exact ⟨_, _, rfl, Kd.R_nil _ _ _ _ _, Kd.R_nil _ _ _ _ _, pw_below_drewN (Below.refl _ _) _⟩
  | true =>
    rw [if_pos rfl] at h
    obtain ⟨h1, h⟩ := Prod.mk.inj (Option.some.inj h)
    obtain ⟨h2, rfl⟩ := Prod.mk.inj h
    have hb' := hb.symm
    rw [Bool.and_eq_true, Bool.and_eq_true] at hb'
    have hrw := rules_words hb'.1
    have hlen : l0.length ≤ 24 := by
      have h0 := hb'.1
      unfold rulesB at h0
      rw [Bool.and_eq_true] at h0
      exact of_decide_eq_true h0.1
    have hrw2 : RuleWords (l0.filter (onB a2)) := fun r hr => hrw r (List.mem_filter.1 hr).1
    have hfw := words_mem hb'.2.1
    have KO := Aside0.mk fun W (hB : Below w.heap.size w W) => l05Of_calls A0 c0 l0 a2 W (Kd.C_below hr0 hB) hlen
    have HR1 := Aside0.mk hr1
    have HW2 := Aside0.mk hrw2
    have HFW := Aside0.mk hfw
    have H1 := Aside0.mk h1
    have H2 := Aside0.mk h2
    clear h h1 h2 hb hb' hrw hlen hrw2 hfw hr0 hr1
    obtain ⟨rs, hrs⟩ : ∃ rs, rs = l0.filter (onB a2) := ⟨_, rfl⟩
    rw [← hrs] at KO HW2 H1 H2
    clear hrs
    go_enter Tryz.func14, Tryz.ntmps14
    go_upto_region 4 with (first
      | (go_at_call 40; (with_reducible refine (KC.out _ (Below.refl _ _)).mono ?_); rintro e w' ⟨rfl, ⟨nd, rfl⟩⟩)
      | (go_at_call 42; (with_reducible refine (KO.out _ (pw_below_drewN (Below.refl _ _) _)).mono ?_); rintro e w2 ⟨v0, rfl, ho, hb⟩; obtain ⟨Av, cv, rfl, hcv, hCv⟩ := own_C ho hb; have HO := Aside0.mk hCv; have HB := Aside0.mk (below_step (pw_below_drewN (Below.refl _ _) _) hb); clear ho hb hCv hcv)
      | (go_at_call 41; (with_reducible refine (l05Answer_calls Av cv rs A1 c1 l1 _ ?side1 ?side2 HW2.out HFW.out).mono ?_); (case side1 => exact HO.out); (case side2 => exact Kd.C_below HR1.out HB.out); rintro e w3 ⟨rfl, Y, N, F, hst, hb3, hy, hn, hf⟩; have HS := Aside0.mk hst; have HB3 := Aside0.mk (below_step HB.out hb3); have HYY := Aside0.mk hy; have HNN := Aside0.mk hn; clear hst hb3 hy hn hf))
    obtain ⟨g, hg⟩ : ∃ g, g = w2.heap.size := ⟨_, rfl⟩
    rw [← hg] at HS ⊢
    have HG := Aside0.mk hg
    clear hg
    go_region_with (first
      | (go_at_call 43; (with_reducible refine (l05List_calls g 0 Y _ ?side1).mono ?_); (case side1 => intro j hj; rw [Nat.zero_add]; first | exact HS.out.y hj | exact HS.out.drew.y hj); rintro e w4 ⟨v4, rfl, ho4, hb4⟩; have HO4 := Aside0.mk ho4; have HB4 := Aside0.mk hb4; have HS4 := Aside0.mk (HS.out.drew.below hb4); clear ho4 hb4)
      | (go_at_call 43; (with_reducible refine (l05List_calls g 32 N _ ?side1).mono ?_); (case side1 => exact fun j hj => HS4.out.n hj); rintro e w5 ⟨v5, rfl, ho5, hb5⟩; have HO5 := Aside0.mk ho5; have HB5 := Aside0.mk hb5; clear ho5 hb5))
    go_wp2
    go_ret3
    have e1 : (wordsTo 16).filter (fun x => Y (plc x)) = r1 := (filter_told HYY.out).trans H1.out
    have e2 : (wordsTo 16).filter (fun x => N (plc x)) = r2 := (filter_told HNN.out).trans H2.out
    have hv4 := HO4.out
    have hv5 := HO5.out
    rw [e1] at hv4
    rw [e2] at hv5
    have hbd : Below w.heap.size w w3.drew := below_drew1 HB3.out
    have hb4 : Below w.heap.size w w4 := below_step hbd HB4.out
    refine ⟨v4, v5, rfl, ?_, ?_, below_step hb4 HB5.out⟩
    · exact Kd.R_lower (Kd.R_mono (Kd.R_elder' hv4 (Kd.R_base hv5) HB5.out) (fun _ hk => hk.2)) hbd.size
    · exact Kd.R_lower (Kd.R_mono (Kd.R_new' hv5 (Kd.R_lt hv4)) (fun _ hk => hk.2)) hb4.size
end Go.Proofs.YtoippneeagaceaaGreat.PR

namespace Go.Proofs.YtoippneeagaceaaGreat.PR
open Go
section
variable {P : Program} {ops : Array Oper} {Q : Exit → Act → World → Prop} {md : Region.Mode} {S : World → Prop} {s : Nat}
/-- Whatever order is picked from here on; S holds behind every operation that is carried out before number s. -/
def wpAnyT (P : Program) (md : Region.Mode) (ops : Array Oper) (Q : Exit → Act → World → Prop) (S : World → Prop) (s : Nat) : Nat → Array Bool → Act → World → Prop
  | 0, listed, a, w => Region.ready md ops listed = [] ∧ Q .normal a w
  | fuel + 1, listed, a, w =>
    (Region.ready md ops listed = [] → Q .normal a w) ∧
    ∀ i ∈ Region.ready md ops listed, wpOp P ops Q i (fun a' w' => ((listed.setIfInBounds i true).getD s false = false → S w') ∧ wpAnyT P md ops Q S s fuel (listed.setIfInBounds i true) a' w') a w
theorem wpAny_of_T : ∀ (fuel : Nat) (listed : Array Bool) (a : Act) (w : World), wpAnyT P md ops Q S s fuel listed a w → wpAny P md ops Q fuel listed a w
  | 0, _, _, _, h => h
  | fuel + 1, _, _, _, h => ⟨h.1, fun i hi => wpOp_mono (fun a' w' h' => wpAny_of_T fuel _ a' w' h'.2) (h.2 i hi)⟩
theorem wpAnyT_first {i : Nat} {oi : Oper} {v : Value} (hi : ops[i]? = some oi) (hsel : ∀ (j : Nat) (o : Oper) cs b, ops[j]? = some o → o.op ≠ .select cs b)
    (hQ : ∀ c a w, Q (.panic c) (a.put oi.dst v) w → Q (.panic c) a w) (his : i ≠ s) (hwait : ∀ os, ops[s]? = some os → ∃ e ∈ os.after, Region.binds md e = true ∧ e.on = i) :
    ∀ (fuel : Nat) (listed : Array Bool) (a : Act) (w : World),
      (∀ j oj, ops[j]? = some oj → j ≠ i → listed.getD j true = false → (∀ e ∈ oj.after, Region.binds md e = true → e.on ≠ i) → oi.apart ops oj = true) →
      i ∈ Region.ready md ops listed → YieldsIf P ops S oi v a → S w → listed.getD s false = false →
      wpAnyT P md ops Q S s fuel (listed.setIfInBounds i true) (a.put oi.dst v) w → wpAnyT P md ops Q S s (fuel + 1) listed a w := by
  intro fuel
  induction fuel with
  | zero =>
    intro listed a w _ hr hy hS hl H
    refine ⟨fun h => (by rw [h] at hr; cases hr), fun j hj => ?_⟩
    by_cases hji : j = i
    · subst hji; exact hy.wpOp hi hS ⟨fun _ => hS, H⟩
    · have := ready_mono hj hji
      rw [H.1] at this
      cases this
  | succ fuel ih =>
    intro listed a w hfree hr hy hS hl H
    refine ⟨fun h => (by rw [h] at hr; cases hr), fun j hj => ?_⟩
    by_cases hji : j = i
    · subst hji; exact hy.wpOp hi hS ⟨fun _ => hS, H⟩
    · have h1 := H.2 j (ready_mono hj hji)
      obtain ⟨hjun, oj, hoj, hall⟩ := mem_ready.1 hj
      have hnot : ∀ e ∈ oj.after, Region.binds md e = true → e.on ≠ i := fun e he hb heq => by
        have h1 := hall e he hb
        have h0 := (mem_ready.1 hr).1
        rw [heq] at h1
        rcases Nat.lt_or_ge i listed.size with h' | h'
        · simp [h'] at h0 h1; rw [h0] at h1; cases h1
        · simp [Array.getElem?_eq_none h'] at h1
      have hjs : j ≠ s := fun he => by
        subst he
        obtain ⟨e, he, hb, hon⟩ := hwait oj hoj
        exact hnot e he hb hon
      have hl1 : ((listed.setIfInBounds i true).setIfInBounds j true).getD s false = false := by rw [getD_set_ne false hjs, getD_set_ne false his]; exact hl
      have hl2 : (listed.setIfInBounds j true).getD s false = false := by rw [getD_set_ne false hjs]; exact hl
      have h2 := wpOp_putIf hoj (hfree j oj hoj hji hjun hnot) (fun cs b => hsel i oi cs b hi) (fun cs b => hsel j oj cs b hoj) hQ hy h1
      have hfree' : ∀ k ok, ops[k]? = some ok → k ≠ i → (listed.setIfInBounds j true).getD k true = false →
          (∀ e ∈ ok.after, Region.binds md e = true → e.on ≠ i) → oi.apart ops ok = true := fun k ok hk hki hun hno => by
        refine hfree k ok hk hki ?_ hno
        by_cases hjk : j = k
        · subst hjk; exact hjun
        · rw [getD_set_ne true hjk] at hun; exact hun
      refine wpOp_mono (fun a' w' h3 => ⟨fun _ => h3.2.1 hl1, ih (listed.setIfInBounds j true) a' w' hfree' (ready_mono hr (Ne.symm hji)) h3.1 (h3.2.1 hl1) hl2 ?_⟩) h2
      rw [Array.setIfInBounds_comm _ _ hji]
      exact h3.2.2
/-- An operation that yields in whatever world may be taken first, whether number s waits for it or not. -/
theorem wpAnyT_first' {i : Nat} {oi : Oper} {v : Value} (hi : ops[i]? = some oi) (hsel : ∀ (j : Nat) (o : Oper) cs b, ops[j]? = some o → o.op ≠ .select cs b)
    (hQ : ∀ c a w, Q (.panic c) (a.put oi.dst v) w → Q (.panic c) a w) (his : i ≠ s) :
    ∀ (fuel : Nat) (listed : Array Bool) (a : Act) (w : World),
      (∀ j oj, ops[j]? = some oj → j ≠ i → listed.getD j true = false → (∀ e ∈ oj.after, Region.binds md e = true → e.on ≠ i) → oi.apart ops oj = true) →
      i ∈ Region.ready md ops listed → YieldsIf P ops (fun _ => True) oi v a → (listed.getD s false = false → S w) →
      wpAnyT P md ops Q S s fuel (listed.setIfInBounds i true) (a.put oi.dst v) w → wpAnyT P md ops Q S s (fuel + 1) listed a w := by
  intro fuel
  induction fuel with
  | zero =>
    intro listed a w _ hr hy hS H
    refine ⟨fun h => (by rw [h] at hr; cases hr), fun j hj => ?_⟩
    by_cases hji : j = i
    · subst hji; exact hy.wpOp hi trivial ⟨fun h => hS (by rwa [getD_set_ne false his] at h), H⟩
    · have := ready_mono hj hji
      rw [H.1] at this
      cases this
  | succ fuel ih =>
    intro listed a w hfree hr hy hS H
    refine ⟨fun h => (by rw [h] at hr; cases hr), fun j hj => ?_⟩
    by_cases hji : j = i
    · subst hji; exact hy.wpOp hi trivial ⟨fun h => hS (by rwa [getD_set_ne false his] at h), H⟩
    · have h1 := H.2 j (ready_mono hj hji)
      obtain ⟨hjun, oj, hoj, hall⟩ := mem_ready.1 hj
      have hnot : ∀ e ∈ oj.after, Region.binds md e = true → e.on ≠ i := fun e he hb heq => by
        have h1 := hall e he hb
        have h0 := (mem_ready.1 hr).1
        rw [heq] at h1
        rcases Nat.lt_or_ge i listed.size with h' | h'
        · simp [h'] at h0 h1; rw [h0] at h1; cases h1
        · simp [Array.getElem?_eq_none h'] at h1
      have hl : ((listed.setIfInBounds i true).setIfInBounds j true).getD s false = (listed.setIfInBounds j true).getD s false := by rw [Array.setIfInBounds_comm _ _ (Ne.symm hji), getD_set_ne false his]
      have h2 := wpOp_putIf hoj (hfree j oj hoj hji hjun hnot) (fun cs b => hsel i oi cs b hi) (fun cs b => hsel j oj cs b hoj) hQ hy h1
      have hfree' : ∀ k ok, ops[k]? = some ok → k ≠ i → (listed.setIfInBounds j true).getD k true = false →
          (∀ e ∈ ok.after, Region.binds md e = true → e.on ≠ i) → oi.apart ops ok = true := fun k ok hk hki hun hno => by
        refine hfree k ok hk hki ?_ hno
        by_cases hjk : j = k
        · subst hjk; exact hjun
        · rw [getD_set_ne true hjk] at hun; exact hun
      refine wpOp_mono (fun a' w' h3 => ⟨fun h => h3.2.1 (hl.trans h), ih (listed.setIfInBounds j true) a' w' hfree' (ready_mono hr (Ne.symm hji)) h3.1 (fun h => h3.2.1 (hl.trans h)) ?_⟩) h2
      rw [Array.setIfInBounds_comm _ _ hji]
      exact h3.2.2
theorem wpAnyT_take' {i : Nat} {oi : Oper} {v : Value} {fuel : Nat} {listed : Array Bool} {a : Act} {w : World} (hi : ops[i]? = some oi)
    (hs : Region.noSelect ops = true) (hf : Region.free md ops listed i = true) (hr : (Region.ready md ops listed).contains i = true) (his : (i != s) = true)
    (hQ : ∀ c a w, Q (.panic c) (a.put oi.dst v) w → Q (.panic c) a w) (hy : YieldsIf P ops (fun _ => True) oi v a) (hS : listed.getD s false = false → S w)
    (h : wpAnyT P md ops Q S s fuel (listed.setIfInBounds i true) (a.put oi.dst v) w) : wpAnyT P md ops Q S s (fuel + 1) listed a w :=
  wpAnyT_first' hi (Region.noSelect_spec hs) hQ (by simpa using his) fuel listed a w (Region.free_spec hi hf) (by simpa using hr) hy hS h
/-- Whether number s waits for number i. -/
def waitsB (md : Region.Mode) (ops : Array Oper) (s i : Nat) : Bool := (i != s) && (match ops[s]? with | some o => o.after.any fun e => Region.binds md e && e.on == i | none => false)
theorem waitsB_spec {i : Nat} (h : waitsB md ops s i = true) : i ≠ s ∧ ∀ os, ops[s]? = some os → ∃ e ∈ os.after, Region.binds md e = true ∧ e.on = i := by
  unfold waitsB at h
  rw [Bool.and_eq_true] at h
  refine ⟨by simpa using h.1, fun os hos => ?_⟩
  have h2 := h.2
  rw [hos] at h2
  simp only [Array.any_eq_true] at h2
  obtain ⟨j, hj, h3⟩ := h2
  rw [Bool.and_eq_true] at h3
  exact ⟨os.after[j], Array.getElem_mem hj, h3.1, by simpa using h3.2⟩
theorem wpAnyT_take {i : Nat} {oi : Oper} {v : Value} {fuel : Nat} {listed : Array Bool} {a : Act} {w : World} (hi : ops[i]? = some oi)
    (hs : Region.noSelect ops = true) (hf : Region.free md ops listed i = true) (hr : (Region.ready md ops listed).contains i = true) (hws : waitsB md ops s i = true) (hl : (listed.getD s false == false) = true)
    (hQ : ∀ c a w, Q (.panic c) (a.put oi.dst v) w → Q (.panic c) a w) (hy : YieldsIf P ops S oi v a) (hS : S w)
    (h : wpAnyT P md ops Q S s fuel (listed.setIfInBounds i true) (a.put oi.dst v) w) : wpAnyT P md ops Q S s (fuel + 1) listed a w :=
  wpAnyT_first hi (Region.noSelect_spec hs) hQ (waitsB_spec hws).1 (waitsB_spec hws).2 fuel listed a w (Region.free_spec hi hf) (by simpa using hr) hy hS (by simpa using hl) h
/-- Each of those that may come up, one after the other. -/
def AllReadyT (P : Program) (md : Region.Mode) (ops : Array Oper) (Q : Exit → Act → World → Prop) (S : World → Prop) (s fuel : Nat) (listed : Array Bool) (a : Act) (w : World) (rs : List Nat) : Prop :=
  ∀ i ∈ rs, wpOp P ops Q i (fun a' w' => ((listed.setIfInBounds i true).getD s false = false → S w') ∧ wpAnyT P md ops Q S s fuel (listed.setIfInBounds i true) a' w') a w
theorem AllReadyT.nil {fuel : Nat} {listed : Array Bool} {a : Act} {w : World} : AllReadyT P md ops Q S s fuel listed a w [] := fun _ h => by cases h
theorem AllReadyT.cons {fuel : Nat} {listed : Array Bool} {a : Act} {w : World} {i : Nat} {o : Oper} {rs : List Nat} (ho : ops[i]? = some o)
    (h : ∀ K' : Act → World → Prop, Shut (∀ a w, S w → wpAnyT P md ops Q S s fuel (listed.setIfInBounds i true) a w → K' a w) → if Region.wanted o (yielded ops a.tmps) = true then Oper.wp P o a w K' Q else K' (a.put o.dst undef) w)
    (hs : AllReadyT P md ops Q S s fuel listed a w rs) : AllReadyT P md ops Q S s fuel listed a w (i :: rs) := fun j hj => by
  rcases List.mem_cons.1 hj with rfl | hj
  · exact wpOp_step ho (fun K' hK => h K' (fun a w hS hW => hK a w ⟨fun _ => hS, hW⟩))
  · exact hs j hj
/-- The same where number s itself, or one behind it, comes up: S is no more asked. -/
theorem AllReadyT.cons' {fuel : Nat} {listed : Array Bool} {a : Act} {w : World} {i : Nat} {o : Oper} {rs : List Nat} (ho : ops[i]? = some o) (hl : ((listed.setIfInBounds i true).getD s false == true) = true)
    (h : ∀ K' : Act → World → Prop, Shut (∀ a w, wpAnyT P md ops Q S s fuel (listed.setIfInBounds i true) a w → K' a w) → if Region.wanted o (yielded ops a.tmps) = true then Oper.wp P o a w K' Q else K' (a.put o.dst undef) w)
    (hs : AllReadyT P md ops Q S s fuel listed a w rs) : AllReadyT P md ops Q S s fuel listed a w (i :: rs) := fun j hj => by
  rcases List.mem_cons.1 hj with rfl | hj
  · exact wpOp_step ho (fun K' hK => h K' (fun a w hW => hK a w ⟨fun he => (by rw [he] at hl; simp at hl), hW⟩))
  · exact hs j hj
theorem wpAnyT_ready {rs : List Nat} {fuel : Nat} {listed : Array Bool} {a : Act} {w : World} (hr : Region.ready md ops listed = rs) (hne : rs ≠ [])
    (h : AllReadyT P md ops Q S s fuel listed a w rs) : wpAnyT P md ops Q S s (fuel + 1) listed a w := ⟨fun h0 => absurd (hr ▸ h0) hne, hr ▸ h⟩
theorem wpAnyT_done {listed : Array Bool} {a : Act} {w : World} (hr : Region.ready md ops listed = []) (h : Q .normal a w) :
    ∀ fuel, wpAnyT P md ops Q S s fuel listed a w
  | 0 => ⟨hr, h⟩
  | _ + 1 => ⟨fun _ => h, by rw [hr]; simp⟩
theorem wp_region_T {id : Nat} {a : Act} {w : World} (S : World → Prop) (s : Nat) (hm : P.follows .mixedOrders = true)
    (h : wpAnyT P .any ops Q S s ops.size (Array.replicate ops.size false) a w.drew) : (Code.region id ops true).wp P Q a w :=
  wp_region_any hm (wpAny_of_T _ _ _ _ h)
end
end Go.Proofs.YtoippneeagaceaaGreat.PR

namespace Go.Proofs.YtoippneeagaceaaGreat.PR
open Go.RowKit Go.Shelf Go.Proofs.YtoippneeagaceaaGreatW.PrintWords Go.Proofs.YtoippneeagaceaaGreatW.PrintLast Go.Proofs.YtoippneeagaceaaGreatW.PrintMore
set_option linter.unusedVariables false
set_option linter.unusedSimpArgs false
theorem keyed2 : Go.Maps.Keyed Tryz.prog 2 := Go.Maps.int_keyed Tryz.underlying2
/-- Block b is a map of at most n entries from numbers to Booleans: at x it says M x. -/
def BMap (W : World) (b n : Nat) (M : Int → Bool) : Prop :=
  ∃ D : DataW Unit, W.ownsMap Tryz.prog 2 (plainElem Tryz.prog 4) b n D ∧ ∀ x : Int, (Lit.int .i64 x).wf = true → D.atKey (.int .i64 x) (.lit (.bool false)) = .lit (.bool (M x))
theorem BMap.made (w : World) : BMap (w.alloc (.map #[] 0)) w.heap.size 0 (fun _ => false) :=
  ⟨.map [], World.ownsMap_made w _ _ _, fun x _ => rfl⟩
theorem BMap.lt {W : World} {b n : Nat} {M : Int → Bool} (h : BMap W b n M) : b < W.heap.size := by obtain ⟨D, h1, _⟩ := h; exact h1.lt
theorem BMap.keep {W W' : World} {b n : Nat} {M : Int → Bool} (h : BMap W b n M) (hb : W'.heap[b]? = W.heap[b]?) : BMap W' b n M := by
  obtain ⟨D, ⟨es, clock, h0, h1⟩, h2⟩ := h
  exact ⟨D, ⟨es, clock, hb.trans h0, h1⟩, h2⟩
theorem BMap.below {W W' : World} {b n : Nat} {M : Int → Bool} (h : BMap W b n M) (hb : Below W.heap.size W W') : BMap W' b n M := h.keep (hb.block b h.lt)
theorem BMap.look {W : World} {b n : Nat} {M : Int → Bool} (h : BMap W b n M) {x : Int} (hx : (Lit.int .i64 x).wf = true) :
    (Instr.lookup 56 (.map (some b)) (.int .i64 x) false).run Tryz.prog W = .ok (.bool (M x)) W := by
  obtain ⟨D, h1, h2⟩ := h
  obtain ⟨v, ps, hrun, hv⟩ := h1.lookup keyed2 Tryz.underlying56 (z := .bool false) (Tryz.zeroValue4 W) (plainElem_bool Tryz.underlying4 false) (Go.Maps.keyOf_int_mk Tryz.underlying2 hx)
  rw [h2 x hx] at hv
  rw [hrun]
  cases v with
  | bool y =>
    rw [plainElem_bool Tryz.underlying4 y] at hv
    simp at hv
    rw [hv.1]
  | _ => simp [plainElem, Tryz.underlying4] at hv
section
open Go.ChangeShapes Go.WideShapes Go.MapKept Go.ChangeMaps Go.WideElems
/-- An entry is looked for and then written: the same as one writing. (Turned from the kit's law at keys of another kind.) -/
theorem entry_then_store_keyed {H : Type} {P : Program} {w : World} {t k e : TypeId} {R : Value → Option (DataW H × List MemPlace)} {b : Nat} {es : Array MapEntry} {clock : Nat} (K : Go.Maps.Keyed P k) (ht : P.underlying t = some (.map k e)) {z : Value} (hz : ∀ u : World, (zeroValue e).run P u = .ok z u) (hb : w.heap[b]? = some (.map es clock)) (F : Go.WideElems.Fit P k R es clock)
    {key : Value} {kl : Lit} (hkey : keyOf P k key = some kl) :
    ∃ (v0 : Value) (st : Nat) (es1 : Array MapEntry) (clock1 : Nat), (Instr.mapEntry t (.map (some b)) key).run P w = .ok (.tuple #[v0, goInt st]) (setBlock w b (.map es1 clock1)) ∧
      ((∃ e0 ∈ es.toList, e0.key = key ∧ v0 = e0.val) ∨ ((∀ x ∈ es.toList, x.key ≠ key) ∧ v0 = z)) ∧
      ∀ (w2 : World) (val : Value), w2.heap[b]? = some (.map es1 clock1) → ∃ es' clock', (Instr.entryStore t (.map (some b)) (goInt st) val).run P w2 = .ok () (setBlock w2 b (.map es' clock')) ∧
        (Instr.mapUpdate t (.map (some b)) key val).run P w = .ok () (setBlock w b (.map es' clock')) := by
  obtain ⟨s1, s2, _⟩ := F.stamped
  rcases K.find w hkey es.toList F.keys with ⟨h1, h2⟩ | ⟨j, e0, h1, h2, h3⟩
  · refine ⟨z, clock, es.push ⟨key, z, clock⟩, clock + 1, ?_, Or.inr ⟨h2, rfl⟩, fun w2 val hw2 => ⟨es.push ⟨key, val, clock⟩, clock + 1, ?_, ?_⟩⟩
    · simp [Instr.mapEntry, run_underlying ht, MapKept.run_getObj_map hb, K.check w false hkey, h1, hz, MapKept.run_setObj_map _ hb, Result.andThen, setBlock]
    · have hidx : (es.push ⟨key, z, clock⟩).findIdx? (fun e => ((e.born : Nat) : Int) == ((clock : Nat) : Int)) = some es.size := by
        rw [findIdx_arr]
        have := findIdx_born (l := (es.push ⟨key, z, clock⟩).toList) (j := es.size) (e0 := ⟨key, z, clock⟩) (by
          simp only [Array.toList_push, List.map_append, List.map_cons, List.map_nil]
          refine List.nodup_append.2 ⟨s2, by simp, fun a ha c hc e1 => ?_⟩
          simp only [List.mem_singleton] at hc
          obtain ⟨x, hx, rfl⟩ := List.mem_map.1 ha
          have := s1 x hx
          omega) (by simp)
        exact this
      have hmod : (es.push ⟨key, z, clock⟩).modify es.size (fun e => { e with val := val }) = es.push ⟨key, val, clock⟩ := by
        apply Array.ext'
        rw [Array.toList_modify, Array.toList_push, Array.toList_push, ← Array.length_toList, modify_last]
      simp [Instr.entryStore, MapKept.run_getObj_map hw2, asInt, asIntOf, goInt, hidx, hmod, MapKept.run_setObj_map _ hw2, Result.andThen, setBlock]
    · simp [Instr.mapUpdate, run_underlying ht, MapKept.run_getObj_map hb, K.check w false hkey, h1, MapKept.run_setObj_map _ hb, Result.andThen, setBlock]
  · have hj : es[j]? = some e0 := by simpa using h2
    have hsame : es.modify j (fun e => { e with key := key }) = es := by
      apply Array.ext'
      rw [Array.toList_modify, modify_eq_set _ _ _ _ h2]
      have : ({ e0 with key := key } : MapEntry) = e0 := by rw [← h3]
      rw [this]
      exact set_self _ _ _ h2
    refine ⟨e0.val, e0.born, es, clock, ?_, Or.inl ⟨e0, List.mem_of_getElem? h2, h3, rfl⟩, fun w2 val hw2 => ⟨es.modify j (fun e' => { e' with key := key, val := val }), clock, ?_, ?_⟩⟩
    · simp [Instr.mapEntry, run_underlying ht, MapKept.run_getObj_map hb, K.check w false hkey, h1, hj, h3, K.stays w hkey, hsame, MapKept.run_setObj_map _ hb, Result.andThen, setBlock]
    · have hidx : es.findIdx? (fun e => ((e.born : Nat) : Int) == ((e0.born : Nat) : Int)) = some j := by
        rw [findIdx_arr]
        exact findIdx_born s2 h2
      have hmod : es.modify j (fun e => { e with val := val }) = es.modify j (fun e' => { e' with key := key, val := val }) := by
        apply Array.ext'
        rw [Array.toList_modify, Array.toList_modify, modify_eq_set _ _ _ _ h2, modify_eq_set _ _ _ _ h2, ← h3]
      simp [Instr.entryStore, MapKept.run_getObj_map hw2, asInt, asIntOf, goInt, hidx, hmod, MapKept.run_setObj_map _ hw2, Result.andThen, setBlock]
    · simp [Instr.mapUpdate, run_underlying ht, MapKept.run_getObj_map hb, K.check w false hkey, h1, hj, h3, K.stays w hkey, MapKept.run_setObj_map _ hb, Result.andThen, setBlock]
end
theorem setBlock_twice (w : World) (b : Nat) (o o' : Obj) : Go.ChangeMaps.setBlock (Go.ChangeMaps.setBlock w b o) b o' = Go.ChangeMaps.setBlock w b o' := by
  simp [Go.ChangeMaps.setBlock]
theorem BMap.set {W : World} {b n : Nat} {M : Int → Bool} (h : BMap W b n M) (hn : n < maxLen) {x : Int} (hx : (Lit.int .i64 x).wf = true) :
    ∃ v0 st w1 w2, (Instr.mapEntry 56 (.map (some b)) (.int .i64 x)).run Tryz.prog W = .ok (.tuple #[v0, goInt st]) w1 ∧ (Instr.entryStore 56 (.map (some b)) (goInt st) (.bool true)).run Tryz.prog w1 = .ok () w2 ∧
      BMap w2 b (n + 1) (fun y => if y = x then true else M y) ∧ W.grownBy w2 (some b) := by
  obtain ⟨D, h1, h2⟩ := h
  have hkey := Go.Maps.keyOf_int_mk (P := Tryz.prog) Tryz.underlying2 hx
  obtain ⟨w', hrun, ho, hg⟩ := h1.update keyed2 Tryz.underlying56 hn hkey (plainElem_bool (H := Unit) Tryz.underlying4 true)
  have hm := h1.isMap
  obtain ⟨es, clock, hb, F, hs, hD⟩ := h1
  obtain ⟨v0, st, es1, clock1, e1, _, e2⟩ := entry_then_store_keyed keyed2 Tryz.underlying56 (z := .bool false) (fun u => Tryz.zeroValue4 u) hb F hkey
  obtain ⟨es', clock', e3, e4⟩ := e2 (Go.ChangeMaps.setBlock W b (.map es1 clock1)) (.bool true) (Go.ChangeMaps.heap_setBlock_same hb _)
  rw [setBlock_twice] at e3
  rw [e4] at hrun
  have hw : Go.ChangeMaps.setBlock W b (.map es' clock') = w' := by injection hrun
  rw [hw] at e3
  refine ⟨v0, st, _, w', e1, e3, ⟨_, ho, fun y hy => ?_⟩, hg⟩
  by_cases e : y = x
  · subst e
    show _ = DataW.lit (Lit.bool (if y = y then true else M y))
    rw [if_pos rfl]
    exact Go.Maps.atKey_put_same hm (keyed2.key hkey) _ _
  · show _ = DataW.lit (Lit.bool (if y = x then true else M y))
    rw [if_neg e, ← h2 y hy]
    exact Go.Maps.atKey_put_other (by intro he; injection he with _ he; exact e he) _ _
end Go.Proofs.YtoippneeagaceaaGreat.PR

namespace Go.Proofs.YtoippneeagaceaaGreat.PR
open Go.RowKit Go.Shelf Go.Proofs.YtoippneeagaceaaGreatW.PrintWords Go.Proofs.YtoippneeagaceaaGreatW.PrintLast Go.Proofs.YtoippneeagaceaaGreatW.PrintMore
set_option linter.unusedVariables false
set_option linter.unusedSimpArgs false
/-- What a function value over rules pays: in every later world it answers p x, and below w all stays. -/
def RuleFnP (g : Nat) (pre lb : Array Value) (w : World) (x : S41) (b : Bool) : Prop :=
  ∀ (W : World) (A1 : Option Addr) (c1 : Nat), Below w.heap.size w W → x.f1.length ≤ c1 → Kd.C (Kd.int .i64) W A1 x.f1.length x.f1 →
    Calls Tryz.prog g (pre ++ #[.agg #[.int .i64 x.f0, .slice A1 x.f1.length c1, .int .i64 x.f2, .int .i64 x.f3, .int .i64 x.f4]] ++ lb) W fun e w' => e = .returned (.bool b) ∧ Below W.heap.size W w'
set_option maxHeartbeats 4000000 in
set_option maxRecDepth 100000 in
theorem indexFuncP41 (g : Nat) (pre lb : Array Value) (eg : ∀ args w, (callFunc g args).run Tryz.prog w = .ok (.enter g args) w) (p : S41 → Bool) (A : Option Addr) (c : Nat) (xs : List S41) (w : World)
    (hr : Kd.C k41 w A xs.length xs) (hp : ∀ x ∈ xs, RuleFnP g pre lb w x (p x)) :
    Calls Tryz.prog 95 #[.slice A xs.length c, .func (.func g) pre lb] w fun e w' => e = .returned (.int .i64 (idxFrom p 0 xs)) ∧ Below w.heap.size w w' := by
  have hm : xs.length ≤ 9223372036854775807 := hr.2.1
  have HR := Aside0.mk hr
  have HP := Aside0.mk hp
  clear hr hp
  go_enter Tryz.func95, Tryz.ntmps95
  go_wp2
  go_loopg [5, 8] xs.length (fun gg _ s8 wr => ∃ n : Nat, n ≤ xs.length ∧ xs.length - n ≤ gg ∧ s8 = .int .i64 n ∧ Aside0 (Below w.heap.size w wr) ∧ Aside0 (idxFrom p 0 xs = idxFrom p n (xs.drop n)))
  case atStart => exact ⟨0, Nat.zero_le _, by omega, rfl, ⟨Below.refl _ _⟩, ⟨rfl⟩⟩
  case round =>
    obtain ⟨n, hn, hg, rfl, HB, HI⟩ := hrel
    by_cases hlt : n < xs.length
    · have hltz : (n : Int) < (xs.length : Int) := by omega
      obtain ⟨ad, A1, c1, e, hx0, hx1, hx2, hx3, hx4, hl1, hi1⟩ := at_T41 HR.out (n : Int) (by omega) hltz
      cases e
      simp only [Int.toNat_natCast] at hx0 hx1 hx2 hx3 hx4
      replace hx0 := (HB.out.cell (World.block_lt_of_cell? w _ hx0)).trans hx0
      replace hx1 := (HB.out.cell (World.block_lt_of_cell? w _ hx1)).trans hx1
      replace hx2 := (HB.out.cell (World.block_lt_of_cell? w _ hx2)).trans hx2
      replace hx3 := (HB.out.cell (World.block_lt_of_cell? w _ hx3)).trans hx3
      replace hx4 := (HB.out.cell (World.block_lt_of_cell? w _ hx4)).trans hx4
      obtain ⟨x, hx⟩ : ∃ x, x = rd_T41 xs (n : Int) := ⟨_, rfl⟩
      rw [← hx] at hx0 hx1 hx2 hx3 hx4 hl1 hi1
      have hxe : x = xs.getD n z41 := by rw [hx]; simp [rd_T41]
      have hmem : x ∈ xs := by rw [hxe]; simp [hlt]
      have hcall := (HP.out x hmem wr A1 c1 HB.out hl1 (Kd.C_below hi1 HB.out)).mono (R' := fun e w' => e = .returned (.bool (p x)) ∧ Below w.heap.size w w') fun e w' h => ⟨h.1, below_step HB.out h.2⟩
      have HS : Aside0 (xs.drop n = x :: xs.drop (n + 1)) := ⟨by rw [hxe]; exact drop_cons z41 xs n hlt⟩
      have HL1 := Aside0.mk hl1
      have HI1 := Aside0.mk hi1
      clear hx hxe hmem hl1 hi1
      cases hq : p x with
      | true =>
        rw [hq] at hcall
        have HC := Aside0.mk hcall
        have HQ := Aside0.mk hq
        clear hcall hq
        go_wp2_with (go_at_fn g; refine HC.out.mono ?_; rintro e w' ⟨rfl, hb'⟩)
        go_ret
        refine ⟨?_, hb'⟩
        rw [HI.out, HS.out]
        simp [idxFrom, HQ.out]
      | false =>
        rw [hq] at hcall
        have HC := Aside0.mk hcall
        have HQ := Aside0.mk hq
        clear hcall hq
        go_wp2_with (go_at_fn g; refine HC.out.mono ?_; rintro e w' ⟨rfl, hb'⟩)
        go_roundg (xs.length - (n + 1))
        case measure => omega
        case rel =>
          refine ⟨n + 1, by omega, by omega, by go_num, ⟨hb'⟩, ⟨?_⟩⟩
          rw [HI.out, HS.out]
          simp [idxFrom, HQ.out]
    · have hltz : ¬ (n : Int) < (xs.length : Int) := by omega
      have : n = xs.length := by omega
      subst this
      go_wp2
      go_ret
      refine ⟨?_, HB.out⟩
      rw [HI.out, List.drop_length]
      rfl
set_option maxHeartbeats 4000000 in
theorem containsFuncP41 (g : Nat) (pre lb : Array Value) (eg : ∀ args w, (callFunc g args).run Tryz.prog w = .ok (.enter g args) w) (p : S41 → Bool) (A : Option Addr) (c : Nat) (xs : List S41) (w : World)
    (hr : Kd.C k41 w A xs.length xs) (hp : ∀ x ∈ xs, RuleFnP g pre lb w x (p x)) :
    Calls Tryz.prog 70 #[.slice A xs.length c, .func (.func g) pre lb] w fun e w' => e = .returned (.bool (xs.any p)) ∧ Below w.heap.size w w' := by
  have H := Aside0.mk (indexFuncP41 g pre lb eg p A c xs w hr hp)
  clear hr hp
  go_enter Tryz.func70, Tryz.ntmps70
  go_wp2_with (go_at_call 95; refine H.out.mono ?_; rintro e w' ⟨rfl, hb'⟩)
  go_ret
  refine ⟨?_, hb'⟩
  have e := idxFrom_nonneg p xs 0
  rw [← e]
  rfl
/-- The same over numbers. -/
def IntFn (g : Nat) (lb : Array Value) (w : World) (x : Int) (b : Bool) : Prop :=
  ∀ (W : World), Below w.heap.size w W → Calls Tryz.prog g (#[.int .i64 x] ++ lb) W fun e w' => e = .returned (.bool b) ∧ Below W.heap.size W w'
set_option maxHeartbeats 4000000 in
set_option maxRecDepth 100000 in
theorem indexFuncI (g : Nat) (lb : Array Value) (eg : ∀ args w, (callFunc g args).run Tryz.prog w = .ok (.enter g args) w) (p : Int → Bool) (A : Option Addr) (c : Nat) (xs : List Int) (w : World)
    (hr : Kd.C (Kd.int .i64) w A xs.length xs) (hp : ∀ x ∈ xs, IntFn g lb w x (p x)) :
    Calls Tryz.prog 88 #[.slice A xs.length c, .func (.func g) #[] lb] w fun e w' => e = .returned (.int .i64 (idxFrom p 0 xs)) ∧ Below w.heap.size w w' := by
  have hm : xs.length ≤ 9223372036854775807 := hr.2.1
  have HR := Aside0.mk hr
  have HP := Aside0.mk hp
  clear hr hp
  go_enter Tryz.func88, Tryz.ntmps88
  go_wp2
  go_loopg [5, 8] xs.length (fun gg _ s8 wr => ∃ n : Nat, n ≤ xs.length ∧ xs.length - n ≤ gg ∧ s8 = .int .i64 n ∧ Aside0 (Below w.heap.size w wr) ∧ Aside0 (idxFrom p 0 xs = idxFrom p n (xs.drop n)))
  case atStart => exact ⟨0, Nat.zero_le _, by omega, rfl, ⟨Below.refl _ _⟩, ⟨rfl⟩⟩
  case round =>
    obtain ⟨n, hn, hg, rfl, HB, HI⟩ := hrel
    by_cases hlt : n < xs.length
    · have hltz : (n : Int) < (xs.length : Int) := by omega
      obtain ⟨ad, e, hx0⟩ := Kd.at_int (Kd.C_below HR.out HB.out) (n : Int) (by omega) hltz
      cases e
      simp only [Int.toNat_natCast] at hx0
      obtain ⟨x, hx⟩ : ∃ x, x = rd xs (n : Int) := ⟨_, rfl⟩
      rw [← hx] at hx0
      have hxe : x = xs.getD n 0 := by rw [hx, rd_nat]
      have hmem : x ∈ xs := by rw [hxe]; simp [hlt]
      have hcall := (HP.out x hmem wr HB.out).mono (R' := fun e w' => e = .returned (.bool (p x)) ∧ Below w.heap.size w w') fun e w' h => ⟨h.1, below_step HB.out h.2⟩
      have HS : Aside0 (xs.drop n = x :: xs.drop (n + 1)) := ⟨by rw [hxe]; exact drop_cons 0 xs n hlt⟩
      clear hx hxe hmem
      cases hq : p x with
      | true =>
        rw [hq] at hcall
        have HC := Aside0.mk hcall
        have HQ := Aside0.mk hq
        clear hcall hq
        go_wp2_with (go_at_fn g; refine HC.out.mono ?_; rintro e w' ⟨rfl, hb'⟩)
        go_ret
        refine ⟨?_, hb'⟩
        rw [HI.out, HS.out]
        simp [idxFrom, HQ.out]
      | false =>
        rw [hq] at hcall
        have HC := Aside0.mk hcall
        have HQ := Aside0.mk hq
        clear hcall hq
        go_wp2_with (go_at_fn g; refine HC.out.mono ?_; rintro e w' ⟨rfl, hb'⟩)
        go_roundg (xs.length - (n + 1))
        case measure => omega
        case rel =>
          refine ⟨n + 1, by omega, by omega, by go_num, ⟨hb'⟩, ⟨?_⟩⟩
          rw [HI.out, HS.out]
          simp [idxFrom, HQ.out]
    · have hltz : ¬ (n : Int) < (xs.length : Int) := by omega
      have : n = xs.length := by omega
      subst this
      go_wp2
      go_ret
      refine ⟨?_, HB.out⟩
      rw [HI.out, List.drop_length]
      rfl
set_option maxHeartbeats 4000000 in
theorem containsFuncI (g : Nat) (lb : Array Value) (eg : ∀ args w, (callFunc g args).run Tryz.prog w = .ok (.enter g args) w) (p : Int → Bool) (A : Option Addr) (c : Nat) (xs : List Int) (w : World)
    (hr : Kd.C (Kd.int .i64) w A xs.length xs) (hp : ∀ x ∈ xs, IntFn g lb w x (p x)) :
    Calls Tryz.prog 60 #[.slice A xs.length c, .func (.func g) #[] lb] w fun e w' => e = .returned (.bool (xs.any p)) ∧ Below w.heap.size w w' := by
  have H := Aside0.mk (indexFuncI g lb eg p A c xs w hr hp)
  clear hr hp
  go_enter Tryz.func60, Tryz.ntmps60
  go_wp2_with (go_at_call 88; refine H.out.mono ?_; rintro e w' ⟨rfl, hb'⟩)
  go_ret
  refine ⟨?_, hb'⟩
  have e := idxFrom_nonneg p xs 0
  rw [← e]
  rfl
end Go.Proofs.YtoippneeagaceaaGreat.PR

namespace Go.Proofs.YtoippneeagaceaaGreat.PR
open Go.RowKit Go.Shelf Go.Proofs.YtoippneeagaceaaGreatW.PrintWords Go.Proofs.YtoippneeagaceaaGreatW.PrintLast Go.Proofs.YtoippneeagaceaaGreatW.PrintMore
set_option linter.unusedVariables false
set_option linter.unusedSimpArgs false
/-- A court lies in block g. -/
structure Court (W : World) (g : Nat) (rules : List S41) (ix facts : List Int) (P D : Int → Bool) : Prop where
  ex : ∃ Ar cr Ai ci Af cf bp bd np nd, W.heap[g]? = some (.cells #[.slice Ar rules.length cr, .slice Ai ix.length ci, .slice Af facts.length cf, .map (some bp), .map (some bd)] 58 (0, 0)) ∧
    Kd.C k41 W Ar rules.length rules ∧ rules.length ≤ cr ∧ Kd.C (Kd.int .i64) W Ai ix.length ix ∧ ix.length ≤ ci ∧ Kd.C (Kd.int .i64) W Af facts.length facts ∧ facts.length ≤ cf ∧ BMap W bp np P ∧ BMap W bd nd D
theorem Court.below {W W' : World} {g : Nat} {rules : List S41} {ix facts : List Int} {P D : Int → Bool} (h : Court W g rules ix facts P D) (hb : Below W.heap.size W W') : Court W' g rules ix facts P D := by
  obtain ⟨Ar, cr, Ai, ci, Af, cf, bp, bd, np, nd, h0, h1, h2, h3, h4, h5, h6, h7, h8⟩ := h.ex
  exact ⟨Ar, cr, Ai, ci, Af, cf, bp, bd, np, nd, blk_below h0 hb, Kd.C_below h1 hb, h2, Kd.C_below h3 hb, h4, Kd.C_below h5 hb, h6, h7.below hb, h8.below hb⟩
theorem Court.lt {W : World} {g : Nat} {rules : List S41} {ix facts : List Int} {P D : Int → Bool} (h : Court W g rules ix facts P D) : g < W.heap.size := by
  obtain ⟨Ar, cr, Ai, ci, Af, cf, bp, bd, np, nd, h0, _⟩ := h.ex
  exact blk_lt h0
theorem index_from (l : List Int) (x : Int) (hl : l.length ≤ 9223372036854775807) : ∀ m n k, n + m = l.length → m < k → ∃ i, slices_Index_int64_int64.l0 k l x (l.length : Int) (n : Int) = some i ∧ decide (i ≥ 0) = decide (x ∈ l.drop n) := by
  intro m
  induction m with
  | zero =>
    intro n k hn hk
    obtain ⟨k, rfl⟩ : ∃ k', k = k' + 1 := ⟨k - 1, by omega⟩
    unfold slices_Index_int64_int64.l0
    rw [if_neg (by omega)]
    refine ⟨-1, rfl, ?_⟩
    rw [List.drop_of_length_le (by omega)]
    rfl
  | succ m ih =>
    intro n k hn hk
    obtain ⟨k, rfl⟩ : ∃ k', k = k' + 1 := ⟨k - 1, by omega⟩
    unfold slices_Index_int64_int64.l0
    rw [if_pos (by omega), if_pos (by omega), if_pos (by omega), rd_nat]
    rw [drop_cons 0 l n (by omega)]
    by_cases h : x = l.getD n 0
    · rw [if_pos h]
      refine ⟨_, rfl, ?_⟩
      simp only [ge_iff_le, List.mem_cons, h, true_or, decide_true, decide_eq_true_eq]
      omega
    · rw [if_neg h, wsm (by omega) (by omega)]
      obtain ⟨i, h1, h2⟩ := ih (n + 1) k (by omega) (by omega)
      refine ⟨i, by rw [← h1]; simp, ?_⟩
      rw [h2]
      simp only [List.mem_cons, h, false_or]
theorem contains_eq (l : List Int) (x : Int) (hl : l.length ≤ 9223372036854775807) {k : Nat} (hk : l.length < k) : slices_Contains_int64_int64.f k l x = some (decide (x ∈ l)) := by
  obtain ⟨i, h1, h2⟩ := index_from l x hl l.length 0 k (by omega) hk
  unfold slices_Contains_int64_int64.f slices_Index_int64_int64.f
  have h3 : slices_Index_int64_int64.l0 k l x (l.length : Int) 0 = some i := h1
  rw [h3]
  show some (decide (i ≥ 0)) = _
  rw [h2, List.drop_zero]
theorem two_boxes (w : World) (o1 o2 : Array Value) (t1 t2 : TypeId) : ∃ W2, (w.alloc (.cells o1 t1)).alloc (.cells o2 t2) = W2 ∧ W2.heap[w.heap.size]? = some (.cells o1 t1 (0, 0)) ∧ W2.heap[w.heap.size + 1]? = some (.cells o2 t2 (0, 0)) ∧ Below w.heap.size w W2 := by
  refine ⟨_, rfl, blk_alloc (blk_new w _) _, ?_, below_alloc (below_alloc (Below.refl _ _) _) _⟩
  have := blk_new (w.alloc (.cells o1 t1)) (.cells o2 t2)
  simpa using this
theorem one_box (w : World) (o1 : Array Value) (t1 : TypeId) : ∃ W2, w.alloc (.cells o1 t1) = W2 ∧ W2.heap[w.heap.size]? = some (.cells o1 t1 (0, 0)) ∧ Below w.heap.size w W2 := ⟨_, rfl, blk_new w _, below_alloc (Below.refl _ _) _⟩
section
variable {g : Nat} {rules : List S41} {ix facts : List Int} {P D : Int → Bool}
set_option maxHeartbeats 4000000 in
theorem court_isFact (w : World) (h : Court w g rules ix facts P D) (x : Int) :
    Calls Tryz.prog 54 #[.pointer (some ⟨g, 0, none⟩), .int .i64 x] w fun e w' => e = .returned (.bool (decide (x ∈ facts))) ∧ Drawn0 w w' := by
  obtain ⟨Ar, cr, Ai, ci, Af, cf, bp, bd, np, nd, h0, h1, h2, h3, h4, h5, h6, h7, h8⟩ := h.ex
  have hc := blk_cell h0 2
  have K1 := Aside0.mk (slices_Contains_int64_int64.calls (facts.length + 1) Af cf facts x (decide (x ∈ facts)) w h5 h6 (contains_eq facts x (C_len h5) (Nat.lt_succ_self _)))
  clear h h0 h1 h3 h5 h7 h8
  simp at hc
  go_enter Tryz.func54, Tryz.ntmps54
  go_wp2_with (go_at_call 65; (with_reducible refine K1.out.mono ?_); rintro e w' ⟨rfl, ⟨nd, rfl⟩⟩)
  go_ret
  exact ⟨rfl, ⟨_, rfl⟩⟩
set_option maxHeartbeats 4000000 in
/-- A closure over the court's own pointer: the word is looked up in a map. -/
theorem holds1_calls (b : Nat) (W : World) (h : Court W g rules ix facts P D) (hbox : W.cell? ⟨b, 0, none⟩ = some (.pointer (some ⟨g, 0, none⟩))) (x : Int) (hx : wordB x = true) :
    Calls Tryz.prog 120 #[.int .i64 x, .pointer (some ⟨b, 0, none⟩)] W fun e w' => e = .returned (.bool (!P x)) ∧ w' = W := by
  obtain ⟨Ar, cr, Ai, ci, Af, cf, bp, bd, np, nd, h0, h1, h2, h3, h4, h5, h6, h7, h8⟩ := h.ex
  have hc := blk_cell h0 3
  have hl := h7.look (x := x) (WalkArith.wf_i64 (by have := (wordB_iff x).1 hx; omega))
  clear h h0 h1 h3 h5 h7 h8
  simp at hc
  cases hp : P x <;> rw [hp] at hl <;> clear hp <;>
  · go_enter Tryz.func120, Tryz.ntmps120
    go_wp2
    go_ret
    exact ⟨rfl, rfl⟩
set_option maxHeartbeats 4000000 in
/-- A closure over the court's own pointer: the word is looked up in a map. -/
theorem fails1_calls (b : Nat) (W : World) (h : Court W g rules ix facts P D) (hbox : W.cell? ⟨b, 0, none⟩ = some (.pointer (some ⟨g, 0, none⟩))) (x : Int) (hx : wordB x = true) :
    Calls Tryz.prog 122 #[.int .i64 x, .pointer (some ⟨b, 0, none⟩)] W fun e w' => e = .returned (.bool (D x)) ∧ w' = W := by
  obtain ⟨Ar, cr, Ai, ci, Af, cf, bp, bd, np, nd, h0, h1, h2, h3, h4, h5, h6, h7, h8⟩ := h.ex
  have hc := blk_cell h0 4
  have hl := h8.look (x := x) (WalkArith.wf_i64 (by have := (wordB_iff x).1 hx; omega))
  clear h h0 h1 h3 h5 h7 h8
  simp at hc
  cases hp : D x <;> rw [hp] at hl <;> clear hp <;>
  · go_enter Tryz.func122, Tryz.ntmps122
    go_wp2
    go_ret
    exact ⟨rfl, rfl⟩
set_option maxHeartbeats 4000000 in
set_option maxRecDepth 100000 in
theorem court_holds (w : World) (h : Court w g rules ix facts P D) (x : S41) (A1 : Option Addr) (c1 : Nat) (hl1 : x.f1.length ≤ c1) (hi1 : Kd.C (Kd.int .i64) w A1 x.f1.length x.f1) (hw : ∀ y ∈ x.f1, wordB y = true) :
    Calls Tryz.prog 97 #[.pointer (some ⟨g, 0, none⟩), .agg #[.int .i64 x.f0, .slice A1 x.f1.length c1, .int .i64 x.f2, .int .i64 x.f3, .int .i64 x.f4]] w fun e w' => e = .returned (.bool (x.f1.all P)) ∧ Below w.heap.size w w' := by
  obtain ⟨W2, hW2, hA, hB, hBel⟩ := two_boxes w #[.pointer (some ⟨g, 0, none⟩)] #[.int .i64 x.f0, .slice A1 x.f1.length c1, .int .i64 x.f2, .int .i64 x.f3, .int .i64 x.f4] 59 41
  have hbox : W2.cell? ⟨w.heap.size, 0, none⟩ = some (.pointer (some ⟨g, 0, none⟩)) := blk_cell hA 0
  have hcs : W2.cell? ⟨w.heap.size + 1, 1, none⟩ = some (.slice A1 x.f1.length c1) := blk_cell hB 1
  have HP : ∀ y ∈ x.f1, IntFn 120 #[.pointer (some ⟨w.heap.size, 0, none⟩)] W2 y (!P y) := fun y hy W hBW =>
    (holds1_calls w.heap.size W ((h.below hBel).below hBW) ((hBW.cell (World.block_lt_of_cell? W2 _ hbox)).trans hbox) y (hw y hy)).mono fun e w' he => ⟨he.1, he.2 ▸ Below.refl _ _⟩
  have K := Aside0.mk (containsFuncI 120 #[.pointer (some ⟨w.heap.size, 0, none⟩)] (enters_of Tryz.func120 (by kernel_rfl) rfl) (fun y => !P y) A1 c1 x.f1 W2 (Kd.C_below hi1 hBel) HP)
  have HBel := Aside0.mk hBel
  clear h hA hB hbox HP hi1 hw hBel
  go_enter Tryz.func97, Tryz.ntmps97
  go_upto_region 1 with (fail)
  try rw [hW2]
  clear hW2
  go_wp2_with (go_at_call 60; (with_reducible refine K.out.mono ?_); rintro e w' ⟨rfl, hb⟩)
  go_ret
  refine ⟨?_, below_step HBel.out hb⟩
  have e1 : (x.f1.all P) = (!(x.f1.any fun y => !P y)) := by induction x.f1 with
    | nil => rfl
    | cons y r ih => simp only [List.all_cons, List.any_cons, ih, Bool.not_or, Bool.not_not]
  rw [e1]
  rfl
set_option maxHeartbeats 4000000 in
set_option maxRecDepth 100000 in
theorem court_fails (w : World) (h : Court w g rules ix facts P D) (x : S41) (A1 : Option Addr) (c1 : Nat) (hl1 : x.f1.length ≤ c1) (hi1 : Kd.C (Kd.int .i64) w A1 x.f1.length x.f1) (hw : ∀ y ∈ x.f1, wordB y = true) :
    Calls Tryz.prog 100 #[.pointer (some ⟨g, 0, none⟩), .agg #[.int .i64 x.f0, .slice A1 x.f1.length c1, .int .i64 x.f2, .int .i64 x.f3, .int .i64 x.f4]] w fun e w' => e = .returned (.bool (x.f1.any D)) ∧ Below w.heap.size w w' := by
  obtain ⟨W2, hW2, hA, hB, hBel⟩ := two_boxes w #[.pointer (some ⟨g, 0, none⟩)] #[.int .i64 x.f0, .slice A1 x.f1.length c1, .int .i64 x.f2, .int .i64 x.f3, .int .i64 x.f4] 59 41
  have hbox : W2.cell? ⟨w.heap.size, 0, none⟩ = some (.pointer (some ⟨g, 0, none⟩)) := blk_cell hA 0
  have hcs : W2.cell? ⟨w.heap.size + 1, 1, none⟩ = some (.slice A1 x.f1.length c1) := blk_cell hB 1
  have HP : ∀ y ∈ x.f1, IntFn 122 #[.pointer (some ⟨w.heap.size, 0, none⟩)] W2 y (D y) := fun y hy W hBW =>
    (fails1_calls w.heap.size W ((h.below hBel).below hBW) ((hBW.cell (World.block_lt_of_cell? W2 _ hbox)).trans hbox) y (hw y hy)).mono fun e w' he => ⟨he.1, he.2 ▸ Below.refl _ _⟩
  have K := Aside0.mk (containsFuncI 122 #[.pointer (some ⟨w.heap.size, 0, none⟩)] (enters_of Tryz.func122 (by kernel_rfl) rfl) (fun y => D y) A1 c1 x.f1 W2 (Kd.C_below hi1 hBel) HP)
  have HBel := Aside0.mk hBel
  clear h hA hB hbox HP hi1 hw hBel
  go_enter Tryz.func100, Tryz.ntmps100
  go_upto_region 1 with (fail)
  try rw [hW2]
  clear hW2
  go_wp2_with (go_at_call 60; (with_reducible refine K.out.mono ?_); rintro e w' ⟨rfl, hb⟩)
  go_ret
  refine ⟨?_, below_step HBel.out hb⟩
  have e1 : (x.f1.any D) = (x.f1.any fun y => D y) := by rfl
  rw [e1]
  rfl
set_option maxHeartbeats 4000000 in
set_option maxRecDepth 100000 in
theorem some1_calls (q : Nat) (pre lb : Array Value) (eg : ∀ args w, (callFunc q args).run Tryz.prog w = .ok (.enter q args) w) (w W : World) (a : Int) (bA bF : Nat) (hB : Below w.heap.size w W) (hA : W.cell? ⟨bA, 0, none⟩ = some (.int .i64 a)) (hF : W.cell? ⟨bF, 0, none⟩ = some (.func (.func q) pre lb))
    (x : S41) (p : Bool) (hp : RuleFnP q pre lb w x p) (A1 : Option Addr) (c1 : Nat) (hl1 : x.f1.length ≤ c1) (hi1 : Kd.C (Kd.int .i64) W A1 x.f1.length x.f1) :
    Calls Tryz.prog 119 #[.agg #[.int .i64 x.f0, .slice A1 x.f1.length c1, .int .i64 x.f2, .int .i64 x.f3, .int .i64 x.f4], .pointer (some ⟨bA, 0, none⟩), .pointer (some ⟨bF, 0, none⟩)] W fun e w' => e = .returned (.bool (x.f0 == a && p)) ∧ Below W.heap.size W w' := by
  obtain ⟨W2, hW2, hS, hBel2⟩ := one_box W #[.int .i64 x.f0, .slice A1 x.f1.length c1, .int .i64 x.f2, .int .i64 x.f3, .int .i64 x.f4] 41
  have hx0 : W2.cell? ⟨W.heap.size, 0, none⟩ = some (.int .i64 x.f0) := blk_cell hS 0
  have hx1 : W2.cell? ⟨W.heap.size, 1, none⟩ = some (.slice A1 x.f1.length c1) := blk_cell hS 1
  have hx2 : W2.cell? ⟨W.heap.size, 2, none⟩ = some (.int .i64 x.f2) := blk_cell hS 2
  have hx3 : W2.cell? ⟨W.heap.size, 3, none⟩ = some (.int .i64 x.f3) := blk_cell hS 3
  have hx4 : W2.cell? ⟨W.heap.size, 4, none⟩ = some (.int .i64 x.f4) := blk_cell hS 4
  have hcA := (hBel2.cell (World.block_lt_of_cell? W _ hA)).trans hA
  have hcF := (hBel2.cell (World.block_lt_of_cell? W _ hF)).trans hF
  have K := Aside0.mk (hp W2 A1 c1 (below_step hB hBel2) hl1 (Kd.C_below hi1 hBel2))
  have HBel2 := Aside0.mk hBel2
  clear hp hi1 hB hS hA hF hBel2
  cases h1 : (x.f0 == a) with
  | false =>
    go_enter Tryz.func119, Tryz.ntmps119
    go_wp2
    go_ret
    exact ⟨rfl, HBel2.out⟩
  | true =>
    go_enter Tryz.func119, Tryz.ntmps119
    go_wp2_with (go_at_fn q; refine K.out.mono ?_; rintro e w' ⟨rfl, hb⟩)
    go_ret
    exact ⟨rfl, below_step HBel2.out hb⟩
set_option maxHeartbeats 4000000 in
set_option maxRecDepth 100000 in
theorem court_some (w : World) (h : Court w g rules ix facts P D) (a : Int) (q : Nat) (pre lb : Array Value) (eg : ∀ args w, (callFunc q args).run Tryz.prog w = .ok (.enter q args) w) (p : S41 → Bool) (hp : ∀ x ∈ rules, RuleFnP q pre lb w x (p x)) :
    Calls Tryz.prog 96 #[.pointer (some ⟨g, 0, none⟩), .int .i64 a, .func (.func q) pre lb] w fun e w' => e = .returned (.bool (rules.any fun r => r.f0 == a && p r)) ∧ Below w.heap.size w w' := by
  obtain ⟨W2, hW2, hA, hF, hBel⟩ := two_boxes w #[.int .i64 a] #[.func (.func q) pre lb] 2 74
  have hcA : W2.cell? ⟨w.heap.size, 0, none⟩ = some (.int .i64 a) := blk_cell hA 0
  have hcF : W2.cell? ⟨w.heap.size + 1, 0, none⟩ = some (.func (.func q) pre lb) := blk_cell hF 0
  obtain ⟨Ar, cr, Ai, ci, Af, cf, bp, bd, np, nd, h0, h1, h2, h3, h4, h5, h6, h7, h8⟩ := (h.below hBel).ex
  have hc0 := blk_cell h0 0
  have K := Aside0.mk (containsFuncP41 119 #[] #[.pointer (some ⟨w.heap.size, 0, none⟩), .pointer (some ⟨w.heap.size + 1, 0, none⟩)] (enters_of Tryz.func119 (by kernel_rfl) rfl) (fun r => r.f0 == a && p r) Ar cr rules W2 h1
    (fun x hx W A1 c1 hBW hl hi => some1_calls q pre lb eg w W a w.heap.size (w.heap.size + 1) (below_step hBel hBW) ((hBW.cell (World.block_lt_of_cell? W2 _ hcA)).trans hcA) ((hBW.cell (World.block_lt_of_cell? W2 _ hcF)).trans hcF) x (p x) (hp x hx) A1 c1 hl hi))
  have HBel := Aside0.mk hBel
  clear h hA hF hcA hcF hp hBel h0 h1 h3 h5 h7 h8
  simp at hc0
  go_enter Tryz.func96, Tryz.ntmps96
  go_upto_region 1 with (fail)
  try rw [hW2]
  clear hW2
  go_wp2_with (go_at_call 70; (with_reducible refine K.out.mono ?_); rintro e w' ⟨rfl, hb⟩)
  go_ret
  exact ⟨rfl, below_step HBel.out hb⟩
set_option maxHeartbeats 4000000 in
set_option maxRecDepth 100000 in
theorem every1_calls (q : Nat) (pre lb : Array Value) (eg : ∀ args w, (callFunc q args).run Tryz.prog w = .ok (.enter q args) w) (w W : World) (bF : Nat) (hB : Below w.heap.size w W) (hF : W.cell? ⟨bF, 0, none⟩ = some (.func (.func q) pre lb))
    (x : S41) (p : Bool) (hp : RuleFnP q pre lb w x p) (A1 : Option Addr) (c1 : Nat) (hl1 : x.f1.length ≤ c1) (hi1 : Kd.C (Kd.int .i64) W A1 x.f1.length x.f1) :
    Calls Tryz.prog 121 #[.agg #[.int .i64 x.f0, .slice A1 x.f1.length c1, .int .i64 x.f2, .int .i64 x.f3, .int .i64 x.f4], .pointer (some ⟨bF, 0, none⟩)] W fun e w' => e = .returned (.bool (!p)) ∧ Below W.heap.size W w' := by
  obtain ⟨W2, hW2, hS, hBel2⟩ := one_box W #[.int .i64 x.f0, .slice A1 x.f1.length c1, .int .i64 x.f2, .int .i64 x.f3, .int .i64 x.f4] 41
  have hx0 : W2.cell? ⟨W.heap.size, 0, none⟩ = some (.int .i64 x.f0) := blk_cell hS 0
  have hx1 : W2.cell? ⟨W.heap.size, 1, none⟩ = some (.slice A1 x.f1.length c1) := blk_cell hS 1
  have hx2 : W2.cell? ⟨W.heap.size, 2, none⟩ = some (.int .i64 x.f2) := blk_cell hS 2
  have hx3 : W2.cell? ⟨W.heap.size, 3, none⟩ = some (.int .i64 x.f3) := blk_cell hS 3
  have hx4 : W2.cell? ⟨W.heap.size, 4, none⟩ = some (.int .i64 x.f4) := blk_cell hS 4
  have hcF := (hBel2.cell (World.block_lt_of_cell? W _ hF)).trans hF
  have K := Aside0.mk (hp W2 A1 c1 (below_step hB hBel2) hl1 (Kd.C_below hi1 hBel2))
  have HBel2 := Aside0.mk hBel2
  clear hp hi1 hB hS hF hBel2
  go_enter Tryz.func121, Tryz.ntmps121
  go_wp2_with (go_at_fn q; refine K.out.mono ?_; rintro e w' ⟨rfl, hb⟩)
  go_ret
  exact ⟨rfl, below_step HBel2.out hb⟩
set_option maxHeartbeats 4000000 in
set_option maxRecDepth 100000 in
theorem court_every (w : World) (h : Court w g rules ix facts P D) (a : Int) (q : Nat) (pre lb : Array Value) (eg : ∀ args w, (callFunc q args).run Tryz.prog w = .ok (.enter q args) w) (p : S41 → Bool) (hp : ∀ x ∈ rules, RuleFnP q pre lb w x (p x)) :
    Calls Tryz.prog 98 #[.pointer (some ⟨g, 0, none⟩), .int .i64 a, .func (.func q) pre lb] w fun e w' => e = .returned (.bool (!rules.any fun r => r.f0 == a && !p r)) ∧ Below w.heap.size w w' := by
  obtain ⟨W2, hW2, hF, hBel⟩ := one_box w #[.func (.func q) pre lb] 74
  have hcF : W2.cell? ⟨w.heap.size, 0, none⟩ = some (.func (.func q) pre lb) := blk_cell hF 0
  have K := Aside0.mk (court_some W2 (h.below hBel) a 121 #[] #[.pointer (some ⟨w.heap.size, 0, none⟩)] (enters_of Tryz.func121 (by kernel_rfl) rfl) (fun r => !p r)
    (fun x hx W A1 c1 hBW hl hi => every1_calls q pre lb eg w W w.heap.size (below_step hBel hBW) ((hBW.cell (World.block_lt_of_cell? W2 _ hcF)).trans hcF) x (p x) (hp x hx) A1 c1 hl hi))
  have HBel := Aside0.mk hBel
  clear h hF hcF hp hBel
  go_enter Tryz.func98, Tryz.ntmps98
  go_upto_region 1 with (fail)
  try rw [hW2]
  clear hW2
  go_wp2_with (go_at_call 96; (with_reducible refine K.out.mono ?_); rintro e w' ⟨rfl, hb⟩)
  go_ret
  exact ⟨rfl, below_step HBel.out hb⟩
end
end Go.Proofs.YtoippneeagaceaaGreat.PR

namespace Go.Proofs.YtoippneeagaceaaGreat.PR
open Go.RowKit Go.Shelf Go.Proofs.YtoippneeagaceaaGreatW.PrintWords Go.Proofs.YtoippneeagaceaaGreatW.PrintLast Go.Proofs.YtoippneeagaceaaGreatW.PrintMore
set_option linter.unusedVariables false
set_option linter.unusedSimpArgs false
theorem cell_later {W W' : World} {a : Addr} {v : Value} (hb : Below W.heap.size W W') (h : W.cell? a = some v) : W'.cell? a = some v := (hb.cell (World.block_lt_of_cell? W _ h)).trans h
section
variable {g : Nat} {rules : List S41} {ix facts : List Int} {P D : Int → Bool}
set_option maxHeartbeats 4000000 in
set_option maxRecDepth 100000 in
theorem proves11_calls (W : World) (h : Court W g rules ix facts P D) (bC bS : Nat) (hC : W.cell? ⟨bC, 0, none⟩ = some (.pointer (some ⟨g, 0, none⟩))) (sr : Int) (hSr : W.cell? ⟨bS, 4, none⟩ = some (.int .i64 sr))
    (x : S41) (A1 : Option Addr) (c1 : Nat) (hl1 : x.f1.length ≤ c1) (hi1 : Kd.C (Kd.int .i64) W A1 x.f1.length x.f1) (hw : ∀ y ∈ x.f1, wordB y = true) :
    Calls Tryz.prog 101 #[.agg #[.int .i64 x.f0, .slice A1 x.f1.length c1, .int .i64 x.f2, .int .i64 x.f3, .int .i64 x.f4], .pointer (some ⟨bC, 0, none⟩), .pointer (some ⟨bS, 0, none⟩)] W fun e w' => e = .returned (.bool (x.f1.all P && decide (sr < x.f4))) ∧ Below W.heap.size W w' := by
  obtain ⟨W2, hW2, hS, hBel2⟩ := one_box W #[.int .i64 x.f0, .slice A1 x.f1.length c1, .int .i64 x.f2, .int .i64 x.f3, .int .i64 x.f4] 41
  have hx4 : W2.cell? ⟨W.heap.size, 4, none⟩ = some (.int .i64 x.f4) := blk_cell hS 4
  have hx0 : W2.cell? ⟨W.heap.size, 0, none⟩ = some (.int .i64 x.f0) := blk_cell hS 0
  have hx1 : W2.cell? ⟨W.heap.size, 1, none⟩ = some (.slice A1 x.f1.length c1) := blk_cell hS 1
  have hx2 : W2.cell? ⟨W.heap.size, 2, none⟩ = some (.int .i64 x.f2) := blk_cell hS 2
  have hx3 : W2.cell? ⟨W.heap.size, 3, none⟩ = some (.int .i64 x.f3) := blk_cell hS 3
  have hcC := cell_later hBel2 hC
  have hcS := cell_later hBel2 hSr
  have K := Aside0.mk (court_holds W2 (h.below hBel2) x A1 c1 hl1 (Kd.C_below hi1 hBel2) hw)
  have HBel2 := Aside0.mk hBel2
  clear h hi1 hw hS hC hSr hBel2
  cases h1 : x.f1.all P with
  | false =>
    rw [h1] at K
    go_enter Tryz.func101, Tryz.ntmps101
    go_wp2_with (go_at_call 97; (with_reducible refine K.out.mono ?_); rintro e w' ⟨rfl, hb⟩; have q4 := cell_later hb hx4; have q5 := cell_later hb hcS)
    go_ret
    exact ⟨by first | rfl | (simp only [Bool.not_or]; rfl), below_step HBel2.out hb⟩
  | true =>
    rw [h1] at K
    cases h2 : decide (sr < x.f4) <;>
    · go_enter Tryz.func101, Tryz.ntmps101
      go_wp2_with (go_at_call 97; (with_reducible refine K.out.mono ?_); rintro e w' ⟨rfl, hb⟩; have q4 := cell_later hb hx4; have q5 := cell_later hb hcS)
      go_ret
      exact ⟨rfl, below_step HBel2.out hb⟩
set_option maxHeartbeats 4000000 in
set_option maxRecDepth 100000 in
theorem disproves11_calls (W : World) (h : Court W g rules ix facts P D) (bC bS : Nat) (hC : W.cell? ⟨bC, 0, none⟩ = some (.pointer (some ⟨g, 0, none⟩))) (sr : Int) (hSr : W.cell? ⟨bS, 4, none⟩ = some (.int .i64 sr))
    (x : S41) (A1 : Option Addr) (c1 : Nat) (hl1 : x.f1.length ≤ c1) (hi1 : Kd.C (Kd.int .i64) W A1 x.f1.length x.f1) (hw : ∀ y ∈ x.f1, wordB y = true) :
    Calls Tryz.prog 103 #[.agg #[.int .i64 x.f0, .slice A1 x.f1.length c1, .int .i64 x.f2, .int .i64 x.f3, .int .i64 x.f4], .pointer (some ⟨bC, 0, none⟩), .pointer (some ⟨bS, 0, none⟩)] W fun e w' => e = .returned (.bool (x.f1.any D || decide (x.f4 ≤ sr))) ∧ Below W.heap.size W w' := by
  obtain ⟨W2, hW2, hS, hBel2⟩ := one_box W #[.int .i64 x.f0, .slice A1 x.f1.length c1, .int .i64 x.f2, .int .i64 x.f3, .int .i64 x.f4] 41
  have hx4 : W2.cell? ⟨W.heap.size, 4, none⟩ = some (.int .i64 x.f4) := blk_cell hS 4
  have hx0 : W2.cell? ⟨W.heap.size, 0, none⟩ = some (.int .i64 x.f0) := blk_cell hS 0
  have hx1 : W2.cell? ⟨W.heap.size, 1, none⟩ = some (.slice A1 x.f1.length c1) := blk_cell hS 1
  have hx2 : W2.cell? ⟨W.heap.size, 2, none⟩ = some (.int .i64 x.f2) := blk_cell hS 2
  have hx3 : W2.cell? ⟨W.heap.size, 3, none⟩ = some (.int .i64 x.f3) := blk_cell hS 3
  have hcC := cell_later hBel2 hC
  have hcS := cell_later hBel2 hSr
  have K := Aside0.mk (court_fails W2 (h.below hBel2) x A1 c1 hl1 (Kd.C_below hi1 hBel2) hw)
  have HBel2 := Aside0.mk hBel2
  clear h hi1 hw hS hC hSr hBel2
  cases h1 : x.f1.any D with
  | true =>
    rw [h1] at K
    go_enter Tryz.func103, Tryz.ntmps103
    go_wp2_with (go_at_call 100; (with_reducible refine K.out.mono ?_); rintro e w' ⟨rfl, hb⟩; have q4 := cell_later hb hx4; have q5 := cell_later hb hcS)
    go_ret
    exact ⟨by first | rfl | (simp only [Bool.not_or]; rfl), below_step HBel2.out hb⟩
  | false =>
    rw [h1] at K
    cases h2 : decide (x.f4 ≤ sr) <;>
    · go_enter Tryz.func103, Tryz.ntmps103
      go_wp2_with (go_at_call 100; (with_reducible refine K.out.mono ?_); rintro e w' ⟨rfl, hb⟩; have q4 := cell_later hb hx4; have q5 := cell_later hb hcS)
      go_ret
      exact ⟨rfl, below_step HBel2.out hb⟩
set_option maxHeartbeats 4000000 in
set_option maxRecDepth 100000 in
theorem proves1_calls (W : World) (h : Court W g rules ix facts P D) (hrw : RuleWords rules) (bC bX : Nat) (hC : W.cell? ⟨bC, 0, none⟩ = some (.pointer (some ⟨g, 0, none⟩))) (a : Int) (hX : W.cell? ⟨bX, 0, none⟩ = some (.int .i64 a))
    (x : S41) (A1 : Option Addr) (c1 : Nat) (hl1 : x.f1.length ≤ c1) (hi1 : Kd.C (Kd.int .i64) W A1 x.f1.length x.f1) (hw : ∀ y ∈ x.f1, wordB y = true) :
    Calls Tryz.prog 99 #[.agg #[.int .i64 x.f0, .slice A1 x.f1.length c1, .int .i64 x.f2, .int .i64 x.f3, .int .i64 x.f4], .pointer (some ⟨bC, 0, none⟩), .pointer (some ⟨bX, 0, none⟩)] W fun e w' => e = .returned (.bool (x.f1.any D || rules.any fun t => t.f0 == a && (t.f1.all P && decide (x.f4 < t.f4)))) ∧ Below W.heap.size W w' := by
  obtain ⟨W2, hW2, hS, hBel2⟩ := one_box W #[.int .i64 x.f0, .slice A1 x.f1.length c1, .int .i64 x.f2, .int .i64 x.f3, .int .i64 x.f4] 41
  have hx4 : W2.cell? ⟨W.heap.size, 4, none⟩ = some (.int .i64 x.f4) := blk_cell hS 4
  have hx0 : W2.cell? ⟨W.heap.size, 0, none⟩ = some (.int .i64 x.f0) := blk_cell hS 0
  have hx1 : W2.cell? ⟨W.heap.size, 1, none⟩ = some (.slice A1 x.f1.length c1) := blk_cell hS 1
  have hx2 : W2.cell? ⟨W.heap.size, 2, none⟩ = some (.int .i64 x.f2) := blk_cell hS 2
  have hx3 : W2.cell? ⟨W.heap.size, 3, none⟩ = some (.int .i64 x.f3) := blk_cell hS 3
  have hcC := cell_later hBel2 hC
  have hcX := cell_later hBel2 hX
  have K := Aside0.mk (court_fails W2 (h.below hBel2) x A1 c1 hl1 (Kd.C_below hi1 hBel2) hw)
  have K2 := Aside0.mk fun (W' : World) (hB : Below W2.heap.size W2 W') => court_some W' ((h.below hBel2).below hB) a 101 #[] #[.pointer (some ⟨bC, 0, none⟩), .pointer (some ⟨W.heap.size, 0, none⟩)] (enters_of Tryz.func101 (by kernel_rfl) rfl) (fun t => t.f1.all P && decide (x.f4 < t.f4))
    (fun t ht Wl A c hBl hl hi => proves11_calls Wl (((h.below hBel2).below hB).below hBl) bC W.heap.size (cell_later hBl (cell_later hB hcC)) x.f4 (cell_later hBl (cell_later hB hx4)) t A c hl hi (hrw t ht))
  have HBel2 := Aside0.mk hBel2
  clear h hi1 hw hS hC hX hBel2
  cases h1 : x.f1.any D with
  | true =>
    rw [h1] at K
    go_enter Tryz.func99, Tryz.ntmps99
    go_wp2_with (go_at_call 100; (with_reducible refine K.out.mono ?_); rintro e w' ⟨rfl, hb⟩; have q4 := cell_later hb hcC; have q5 := cell_later hb hcX)
    go_ret
    exact ⟨by first | rfl | (simp only [Bool.not_or]; rfl), below_step HBel2.out hb⟩
  | false =>
    rw [h1] at K
    go_enter Tryz.func99, Tryz.ntmps99
    go_wp2_with (first
      | (go_at_call 100; (with_reducible refine K.out.mono ?_); rintro e w' ⟨rfl, hb⟩; have q4 := cell_later hb hcC; have q5 := cell_later hb hcX; have HB := Aside0.mk hb; clear hb)
      | (go_at_call 96; (with_reducible refine (K2.out _ HB.out).mono ?_); rintro e w2 ⟨rfl, hb2⟩; have HB2 := Aside0.mk (below_step HB.out hb2); clear hb2))
    go_ret
    exact ⟨by first | rfl | (simp only [Bool.not_or]; rfl), below_step HBel2.out HB2.out⟩
set_option maxHeartbeats 4000000 in
set_option maxRecDepth 100000 in
theorem disproves1_calls (W : World) (h : Court W g rules ix facts P D) (hrw : RuleWords rules) (bC bX : Nat) (hC : W.cell? ⟨bC, 0, none⟩ = some (.pointer (some ⟨g, 0, none⟩))) (a : Int) (hX : W.cell? ⟨bX, 0, none⟩ = some (.int .i64 a))
    (x : S41) (A1 : Option Addr) (c1 : Nat) (hl1 : x.f1.length ≤ c1) (hi1 : Kd.C (Kd.int .i64) W A1 x.f1.length x.f1) (hw : ∀ y ∈ x.f1, wordB y = true) :
    Calls Tryz.prog 102 #[.agg #[.int .i64 x.f0, .slice A1 x.f1.length c1, .int .i64 x.f2, .int .i64 x.f3, .int .i64 x.f4], .pointer (some ⟨bC, 0, none⟩), .pointer (some ⟨bX, 0, none⟩)] W fun e w' => e = .returned (.bool (x.f1.all P && !rules.any fun t => t.f0 == a && !(t.f1.any D || decide (t.f4 ≤ x.f4)))) ∧ Below W.heap.size W w' := by
  obtain ⟨W2, hW2, hS, hBel2⟩ := one_box W #[.int .i64 x.f0, .slice A1 x.f1.length c1, .int .i64 x.f2, .int .i64 x.f3, .int .i64 x.f4] 41
  have hx4 : W2.cell? ⟨W.heap.size, 4, none⟩ = some (.int .i64 x.f4) := blk_cell hS 4
  have hx0 : W2.cell? ⟨W.heap.size, 0, none⟩ = some (.int .i64 x.f0) := blk_cell hS 0
  have hx1 : W2.cell? ⟨W.heap.size, 1, none⟩ = some (.slice A1 x.f1.length c1) := blk_cell hS 1
  have hx2 : W2.cell? ⟨W.heap.size, 2, none⟩ = some (.int .i64 x.f2) := blk_cell hS 2
  have hx3 : W2.cell? ⟨W.heap.size, 3, none⟩ = some (.int .i64 x.f3) := blk_cell hS 3
  have hcC := cell_later hBel2 hC
  have hcX := cell_later hBel2 hX
  have K := Aside0.mk (court_holds W2 (h.below hBel2) x A1 c1 hl1 (Kd.C_below hi1 hBel2) hw)
  have K2 := Aside0.mk fun (W' : World) (hB : Below W2.heap.size W2 W') => court_every W' ((h.below hBel2).below hB) a 103 #[] #[.pointer (some ⟨bC, 0, none⟩), .pointer (some ⟨W.heap.size, 0, none⟩)] (enters_of Tryz.func103 (by kernel_rfl) rfl) (fun t => t.f1.any D || decide (t.f4 ≤ x.f4))
    (fun t ht Wl A c hBl hl hi => disproves11_calls Wl (((h.below hBel2).below hB).below hBl) bC W.heap.size (cell_later hBl (cell_later hB hcC)) x.f4 (cell_later hBl (cell_later hB hx4)) t A c hl hi (hrw t ht))
  have HBel2 := Aside0.mk hBel2
  clear h hi1 hw hS hC hX hBel2
  cases h1 : x.f1.all P with
  | false =>
    rw [h1] at K
    go_enter Tryz.func102, Tryz.ntmps102
    go_wp2_with (go_at_call 97; (with_reducible refine K.out.mono ?_); rintro e w' ⟨rfl, hb⟩; have q4 := cell_later hb hcC; have q5 := cell_later hb hcX)
    go_ret
    exact ⟨by first | rfl | (simp only [Bool.not_or]; rfl), below_step HBel2.out hb⟩
  | true =>
    rw [h1] at K
    go_enter Tryz.func102, Tryz.ntmps102
    go_wp2_with (first
      | (go_at_call 97; (with_reducible refine K.out.mono ?_); rintro e w' ⟨rfl, hb⟩; have q4 := cell_later hb hcC; have q5 := cell_later hb hcX; have HB := Aside0.mk hb; clear hb)
      | (go_at_call 98; (with_reducible refine (K2.out _ HB.out).mono ?_); rintro e w2 ⟨rfl, hb2⟩; have HB2 := Aside0.mk (below_step HB.out hb2); clear hb2))
    go_ret
    exact ⟨by first | rfl | (simp only [Bool.not_or]; rfl), below_step HBel2.out HB2.out⟩
/-- The court says that a word is proved. -/
def provesB (rules : List S41) (facts : List Int) (P D : Int → Bool) (x : Int) : Bool :=
  decide (x ∈ facts) || (!decide (-x ∈ facts) && ((rules.any fun t => t.f0 == x && t.f1.all P) && !rules.any fun s => s.f0 == -x && !(s.f1.any D || rules.any fun t => t.f0 == x && (t.f1.all P && decide (s.f4 < t.f4)))))
def disprovesB (rules : List S41) (facts : List Int) (P D : Int → Bool) (x : Int) : Bool :=
  !decide (x ∈ facts) && (decide (-x ∈ facts) || ((!rules.any fun t => t.f0 == x && !t.f1.any D) || rules.any fun s => s.f0 == -x && (s.f1.all P && !rules.any fun t => t.f0 == x && !(t.f1.any D || decide (t.f4 ≤ s.f4)))))
set_option maxHeartbeats 8000000 in
set_option maxRecDepth 100000 in
theorem court_proves (w : World) (h : Court w g rules ix facts P D) (hrw : RuleWords rules) (x : Int) (hx : wordB x = true) :
    Calls Tryz.prog 78 #[.pointer (some ⟨g, 0, none⟩), .int .i64 x] w fun e w' => e = .returned (.bool (provesB rules facts P D x)) ∧ Below w.heap.size w w' := by
  obtain ⟨W2, hW2, hA, hB, hBel⟩ := two_boxes w #[.pointer (some ⟨g, 0, none⟩)] #[.int .i64 x] 59 2
  have hcC : W2.cell? ⟨w.heap.size, 0, none⟩ = some (.pointer (some ⟨g, 0, none⟩)) := blk_cell hA 0
  have hcX : W2.cell? ⟨w.heap.size + 1, 0, none⟩ = some (.int .i64 x) := blk_cell hB 0
  have hneg : wrap64 (-x) = -x := by have hz := (wordB_iff x).1 hx; exact wsm (by omega) (by omega)
  have hC2 := h.below hBel
  have KF := Aside0.mk (court_isFact W2 hC2 x)
  have KN := Aside0.mk fun k => court_isFact (W2.drewN k) (hC2.below (pw_below_drewN (Below.refl _ _) k)) (-x)
  have K1 := Aside0.mk fun (W' : World) (hB : Below W2.heap.size W2 W') => court_some W' (hC2.below hB) x 97 #[.pointer (some ⟨g, 0, none⟩)] #[] (enters_of Tryz.func97 (by kernel_rfl) rfl) (fun t => t.f1.all P)
    (fun t ht Wl A c hBl hl hi => court_holds Wl ((hC2.below hB).below hBl) t A c hl hi (hrw t ht))
  have K2 := Aside0.mk fun (W' : World) (hB : Below W2.heap.size W2 W') => court_every W' (hC2.below hB) (-x) 99 #[] #[.pointer (some ⟨w.heap.size, 0, none⟩), .pointer (some ⟨w.heap.size + 1, 0, none⟩)] (enters_of Tryz.func99 (by kernel_rfl) rfl) (fun x_1 => x_1.f1.any D || rules.any fun t => t.f0 == x && (t.f1.all P && decide (x_1.f4 < t.f4)))
    (fun t ht Wl A c hBl hl hi => proves1_calls Wl ((hC2.below hB).below hBl) hrw w.heap.size (w.heap.size + 1) (cell_later hBl (cell_later hB hcC)) x (cell_later hBl (cell_later hB hcX)) t A c hl hi (hrw t ht))
  have HBel := Aside0.mk hBel
  clear h hA hB hBel hC2
  unfold provesB
  cases hf : decide (x ∈ facts) <;> rw [hf] at KF
  rotate_left
  · clear hf
    go_enter Tryz.func78, Tryz.ntmps78
    go_wp2_with (first
      | (go_at_call 54; (with_reducible refine KF.out.mono ?_); rintro e w' ⟨rfl, ⟨nd, rfl⟩⟩)
      | (go_at_call 54; (with_reducible refine (KN.out _).mono ?_); rintro e w' ⟨rfl, ⟨nd2, rfl⟩⟩))
    go_ret
    exact ⟨by first | rfl | (simp only [Bool.not_or]; rfl), below_step HBel.out (by repeat (first | exact Below.refl _ _ | apply pw_below_drewN))⟩
  cases hn : decide (-x ∈ facts) <;> rw [hn] at KN
  rotate_left
  · clear hf hn
    go_enter Tryz.func78, Tryz.ntmps78
    go_wp2_with (first
      | (go_at_call 54; (with_reducible refine KF.out.mono ?_); rintro e w' ⟨rfl, ⟨nd, rfl⟩⟩)
      | (go_at_call 54; (with_reducible refine (KN.out _).mono ?_); rintro e w' ⟨rfl, ⟨nd2, rfl⟩⟩))
    go_ret
    exact ⟨by first | rfl | (simp only [Bool.not_or]; rfl), below_step HBel.out (by repeat (first | exact Below.refl _ _ | apply pw_below_drewN))⟩
  obtain ⟨b1, hb1⟩ : ∃ b1, b1 = rules.any fun t => t.f0 == x && t.f1.all P := ⟨_, rfl⟩
  rw [← hb1] at K1 ⊢
  clear hb1
  cases b1
  · clear hf hn
    go_enter Tryz.func78, Tryz.ntmps78
    go_wp2_with (first
      | (go_at_call 54; (with_reducible refine KF.out.mono ?_); rintro e w' ⟨rfl, ⟨nd, rfl⟩⟩)
      | (go_at_call 54; (with_reducible refine (KN.out _).mono ?_); rintro e w' ⟨rfl, ⟨nd2, rfl⟩⟩)
      | (go_at_call 96; (with_reducible refine (K1.out _ (by repeat (first | exact Below.refl _ _ | apply pw_below_drewN))).mono ?_); rintro e w1 ⟨rfl, hb⟩; have q4 := cell_later hb hcC; have q5 := cell_later hb hcX; have HB := Aside0.mk (below_step (by repeat (first | exact Below.refl _ _ | apply pw_below_drewN) : Below W2.heap.size W2 _) hb); clear hb))
    go_ret
    exact ⟨by first | rfl | (simp only [Bool.not_or]; rfl), below_step HBel.out HB.out⟩
  · clear hf hn
    go_enter Tryz.func78, Tryz.ntmps78
    go_wp2_with (first
      | (go_at_call 54; (with_reducible refine KF.out.mono ?_); rintro e w' ⟨rfl, ⟨nd, rfl⟩⟩)
      | (go_at_call 54; (with_reducible refine (KN.out _).mono ?_); rintro e w' ⟨rfl, ⟨nd2, rfl⟩⟩)
      | (go_at_call 96; (with_reducible refine (K1.out _ (by repeat (first | exact Below.refl _ _ | apply pw_below_drewN))).mono ?_); rintro e w1 ⟨rfl, hb⟩; have q4 := cell_later hb hcC; have q5 := cell_later hb hcX; have HB := Aside0.mk (below_step (by repeat (first | exact Below.refl _ _ | apply pw_below_drewN) : Below W2.heap.size W2 _) hb); clear hb)
      | (go_at_call 98; (with_reducible refine (K2.out _ HB.out).mono ?_); rintro e w3 ⟨rfl, hb⟩; have HB2 := Aside0.mk (below_step HB.out hb); clear hb))
    go_ret
    exact ⟨by first | rfl | (simp only [Bool.not_or]; rfl), below_step HBel.out HB2.out⟩
set_option maxHeartbeats 8000000 in
set_option maxRecDepth 100000 in
theorem court_disproves (w : World) (h : Court w g rules ix facts P D) (hrw : RuleWords rules) (x : Int) (hx : wordB x = true) :
    Calls Tryz.prog 79 #[.pointer (some ⟨g, 0, none⟩), .int .i64 x] w fun e w' => e = .returned (.bool (disprovesB rules facts P D x)) ∧ Below w.heap.size w w' := by
  obtain ⟨W2, hW2, hA, hB, hBel⟩ := two_boxes w #[.pointer (some ⟨g, 0, none⟩)] #[.int .i64 x] 59 2
  have hcC : W2.cell? ⟨w.heap.size, 0, none⟩ = some (.pointer (some ⟨g, 0, none⟩)) := blk_cell hA 0
  have hcX : W2.cell? ⟨w.heap.size + 1, 0, none⟩ = some (.int .i64 x) := blk_cell hB 0
  have hneg : wrap64 (-x) = -x := by have hz := (wordB_iff x).1 hx; exact wsm (by omega) (by omega)
  have hC2 := h.below hBel
  have KF := Aside0.mk (court_isFact W2 hC2 x)
  have KN := Aside0.mk fun k => court_isFact (W2.drewN k) (hC2.below (pw_below_drewN (Below.refl _ _) k)) (-x)
  have K1 := Aside0.mk fun (W' : World) (hB : Below W2.heap.size W2 W') => court_every W' (hC2.below hB) x 100 #[.pointer (some ⟨g, 0, none⟩)] #[] (enters_of Tryz.func100 (by kernel_rfl) rfl) (fun t => t.f1.any D)
    (fun t ht Wl A c hBl hl hi => court_fails Wl ((hC2.below hB).below hBl) t A c hl hi (hrw t ht))
  have K2 := Aside0.mk fun (W' : World) (hB : Below W2.heap.size W2 W') => court_some W' (hC2.below hB) (-x) 102 #[] #[.pointer (some ⟨w.heap.size, 0, none⟩), .pointer (some ⟨w.heap.size + 1, 0, none⟩)] (enters_of Tryz.func102 (by kernel_rfl) rfl) (fun x_1 => x_1.f1.all P && !rules.any fun t => t.f0 == x && !(t.f1.any D || decide (t.f4 ≤ x_1.f4)))
    (fun t ht Wl A c hBl hl hi => disproves1_calls Wl ((hC2.below hB).below hBl) hrw w.heap.size (w.heap.size + 1) (cell_later hBl (cell_later hB hcC)) x (cell_later hBl (cell_later hB hcX)) t A c hl hi (hrw t ht))
  have HBel := Aside0.mk hBel
  clear h hA hB hBel hC2
  unfold disprovesB
  cases hf : decide (x ∈ facts) <;> rw [hf] at KF
  rotate_left
  · clear hf
    go_enter Tryz.func79, Tryz.ntmps79
    go_wp2_with (first
      | (go_at_call 54; (with_reducible refine KF.out.mono ?_); rintro e w' ⟨rfl, ⟨nd, rfl⟩⟩)
      | (go_at_call 54; (with_reducible refine (KN.out _).mono ?_); rintro e w' ⟨rfl, ⟨nd2, rfl⟩⟩))
    go_ret
    exact ⟨by first | rfl | (simp only [Bool.not_or]; rfl), below_step HBel.out (by repeat (first | exact Below.refl _ _ | apply pw_below_drewN))⟩
  cases hn : decide (-x ∈ facts) <;> rw [hn] at KN
  rotate_left
  · clear hf hn
    go_enter Tryz.func79, Tryz.ntmps79
    go_wp2_with (first
      | (go_at_call 54; (with_reducible refine KF.out.mono ?_); rintro e w' ⟨rfl, ⟨nd, rfl⟩⟩)
      | (go_at_call 54; (with_reducible refine (KN.out _).mono ?_); rintro e w' ⟨rfl, ⟨nd2, rfl⟩⟩))
    go_ret
    exact ⟨by first | rfl | (simp only [Bool.not_or]; rfl), below_step HBel.out (by repeat (first | exact Below.refl _ _ | apply pw_below_drewN))⟩
  obtain ⟨b1, hb1⟩ : ∃ b1, b1 = rules.any fun t => t.f0 == x && !t.f1.any D := ⟨_, rfl⟩
  rw [← hb1] at K1 ⊢
  clear hb1
  cases b1
  · clear hf hn
    go_enter Tryz.func79, Tryz.ntmps79
    go_wp2_with (first
      | (go_at_call 54; (with_reducible refine KF.out.mono ?_); rintro e w' ⟨rfl, ⟨nd, rfl⟩⟩)
      | (go_at_call 54; (with_reducible refine (KN.out _).mono ?_); rintro e w' ⟨rfl, ⟨nd2, rfl⟩⟩)
      | (go_at_call 98; (with_reducible refine (K1.out _ (by repeat (first | exact Below.refl _ _ | apply pw_below_drewN))).mono ?_); rintro e w1 ⟨rfl, hb⟩; have q4 := cell_later hb hcC; have q5 := cell_later hb hcX; have HB := Aside0.mk (below_step (by repeat (first | exact Below.refl _ _ | apply pw_below_drewN) : Below W2.heap.size W2 _) hb); clear hb))
    go_ret
    exact ⟨by first | rfl | (simp only [Bool.not_or]; rfl), below_step HBel.out HB.out⟩
  · clear hf hn
    go_enter Tryz.func79, Tryz.ntmps79
    go_wp2_with (first
      | (go_at_call 54; (with_reducible refine KF.out.mono ?_); rintro e w' ⟨rfl, ⟨nd, rfl⟩⟩)
      | (go_at_call 54; (with_reducible refine (KN.out _).mono ?_); rintro e w' ⟨rfl, ⟨nd2, rfl⟩⟩)
      | (go_at_call 98; (with_reducible refine (K1.out _ (by repeat (first | exact Below.refl _ _ | apply pw_below_drewN))).mono ?_); rintro e w1 ⟨rfl, hb⟩; have q4 := cell_later hb hcC; have q5 := cell_later hb hcX; have HB := Aside0.mk (below_step (by repeat (first | exact Below.refl _ _ | apply pw_below_drewN) : Below W2.heap.size W2 _) hb); clear hb)
      | (go_at_call 96; (with_reducible refine (K2.out _ HB.out).mono ?_); rintro e w3 ⟨rfl, hb⟩; have HB2 := Aside0.mk (below_step HB.out hb); clear hb))
    go_ret
    exact ⟨by first | rfl | (simp only [Bool.not_or]; rfl), below_step HBel.out HB2.out⟩
end
end Go.Proofs.YtoippneeagaceaaGreat.PR

namespace Go.Proofs.YtoippneeagaceaaGreat.PR
open Go.RowKit Go.Shelf Go.Proofs.YtoippneeagaceaaGreatW.PrintWords Go.Proofs.YtoippneeagaceaaGreatW.PrintLast Go.Proofs.YtoippneeagaceaaGreatW.PrintMore
set_option linter.unusedVariables false
set_option linter.unusedSimpArgs false
/-- The court (block w.heap.size + 1 + 1) holds v0, i0; the rows vr of rules, vi of indices; a rule X lies in block B9. -/
structure Jx (w : World) (vf : Value) (B9 : Nat) (X : Array Value) (W : World) (v0 i0 vr vi : Value) (rs : List S41) (ix : List Int) : Prop where
  blk : W.heap[w.heap.size + 1 + 1]? = some (.cells #[v0, i0, vf, .map (some w.heap.size), .map (some (w.heap.size + 1))] 58 (0, 0))
  mp : BMap W w.heap.size 0 (fun _ => false)
  md : BMap W (w.heap.size + 1) 0 (fun _ => false)
  row : OwnRow (k41.K w) 41 5 W w.heap.size vr rs
  ixr : Kd.R (Kd.int .i64) 2 W w.heap.size (fun _ => True) vi ix
  below : Below w.heap.size w W
  var : W.heap[B9]? = some (.cells X 41 (0, 0))
  apart : ∀ k, vr.ownBlock = some k → k ≠ B9
namespace Jx
variable {w : World} {vf : Value} {B9 : Nat} {X : Array Value} {W W' : World} {v0 i0 vr vi vr' vi' : Value} {rs rs' : List S41} {ix ix' : List Int}
theorem later (h : Jx w vf B9 X W v0 i0 vr vi rs ix) (hb : Below W.heap.size W W') : Jx w vf B9 X W' v0 i0 vr vi rs ix :=
  ⟨blk_below h.blk hb, h.mp.below hb, h.md.below hb, h.row.below hb, Kd.R_below h.ixr hb, below_step h.below hb, blk_below h.var hb, h.apart⟩
theorem size (h : Jx w vf B9 X W v0 i0 vr vi rs ix) : w.heap.size + 1 + 1 < W.heap.size := blk_lt h.blk
theorem map_keep {b n : Nat} {M : Int → Bool} {W w1 : World} {row : Option Nat} (h : BMap W b n M) (hg : W.grownBy w1 row) (hr : ∀ k, row = some k → ∃ cs t, W.heap[k]? = some (.cells cs t (0, 0))) : BMap w1 b n M := by
  refine h.keep (hg.block b h.lt (fun he => ?_))
  obtain ⟨cs, t, h1⟩ := hr b he.symm
  obtain ⟨D, ⟨es, clock, h2, _⟩, _⟩ := h
  rw [h1] at h2
  cases h2
theorem blk_keep {g : Nat} {cs : Array Value} {t e : Nat} {W w1 : World} {row : Option Nat} (h : W.heap[g]? = some (.cells cs t (0, 0))) (hg : W.grownBy w1 row) (hr : ∀ k, row = some k → ∃ cs, W.heap[k]? = some (.cells cs e (0, 0))) (ht : t ≠ e) : w1.heap[g]? = some (.cells cs t (0, 0)) := by
  refine blk_grown h hg (fun he => ?_)
  obtain ⟨cs', h1⟩ := hr g he.symm
  rw [h1] at h
  injection h with h
  injection h with _ h2
  exact ht h2.symm
theorem rowTyped (h : Jx w vf B9 X W v0 i0 vr vi rs ix) : ∀ k, vr.ownBlock = some k → ∃ cs, W.heap[k]? = some (.cells cs 41 (0, 0)) := by
  obtain ⟨inner, ho, hr⟩ := h.row
  exact fun k hk => own_typed ho k hk
theorem ixTyped (h : Jx w vf B9 X W v0 i0 vr vi rs ix) : ∀ k, vi.ownBlock = some k → ∃ cs, W.heap[k]? = some (.cells cs 2 (0, 0)) := fun k hk => own_typed (Kd.own_of_R h.ixr) k hk
theorem rowStep (h : Jx w vf B9 X W v0 i0 vr vi rs ix) (hg : W.grownBy W' vr.ownBlock) (ho : OwnRow (k41.K w) 41 5 W' w.heap.size vr' rs') (hat : ∀ k, vr'.ownBlock = some k → vr.ownBlock = some k ∨ k = W.heap.size) : Jx w vf B9 X W' v0 i0 vr' vi rs' ix := by
  have hT := h.rowTyped
  refine ⟨blk_keep h.blk hg hT (by decide), map_keep h.mp hg (fun k hk => by obtain ⟨cs, e⟩ := hT k hk; exact ⟨cs, 41, e⟩), map_keep h.md hg (fun k hk => by obtain ⟨cs, e⟩ := hT k hk; exact ⟨cs, 41, e⟩), ho, ?_, ?_, ?_, ?_⟩
  · refine Kd.R_grown2 h.ixr rfl hg (fun k hk he => ?_)
    obtain ⟨c1, e1⟩ := hT k hk
    obtain ⟨c2, e2⟩ := h.ixTyped k he.symm
    rw [e1] at e2
    cases e2
  · obtain ⟨inner, ho', hr⟩ := h.row
    exact pw_below_grown h.below _ h.below.size hg (fun k hk => own_base ho' k hk)
  · exact blk_grown h.var hg (fun he => h.apart B9 he.symm rfl)
  · intro k hk
    rcases hat k hk with h1 | h1
    · exact h.apart k h1
    · have := blk_lt h.var; omega
theorem ixStep (h : Jx w vf B9 X W v0 i0 vr vi rs ix) (hg : W.grownBy W' vi.ownBlock) (ho : Kd.R (Kd.int .i64) 2 W' w.heap.size (fun _ => True) vi' ix') : Jx w vf B9 X W' v0 i0 vr vi' rs ix' := by
  have hT := h.ixTyped
  refine ⟨blk_keep h.blk hg hT (by decide), map_keep h.mp hg (fun k hk => by obtain ⟨cs, e⟩ := hT k hk; exact ⟨cs, 2, e⟩), map_keep h.md hg (fun k hk => by obtain ⟨cs, e⟩ := hT k hk; exact ⟨cs, 2, e⟩), ?_, ho, ?_, ?_, h.apart⟩
  · obtain ⟨inner, ho', hr⟩ := h.row
    refine ⟨inner, own_move ho' (fun k hk => hg.block k (own_lt ho' k hk) (fun he => ?_)), hr⟩
    obtain ⟨c1, e1⟩ := hT k he.symm
    obtain ⟨c2, e2⟩ := h.rowTyped k hk
    rw [e1] at e2
    cases e2
  · exact pw_below_grown h.below _ h.below.size hg (fun k hk => own_base (Kd.own_of_R h.ixr) k hk)
  · exact blk_keep h.var hg hT (by decide)
/-- The court's two cells are written. -/
theorem stored (h : Jx w vf B9 X W v0 i0 vr vi rs ix) : Jx w vf B9 X ((W.setCell ⟨w.heap.size + 1 + 1, 0, none⟩ vr).setCell ⟨w.heap.size + 1 + 1, 1, none⟩ vi) vr vi vr vi rs ix := by
  have hother : ∀ k, k ≠ w.heap.size + 1 + 1 → ((W.setCell ⟨w.heap.size + 1 + 1, 0, none⟩ vr).setCell ⟨w.heap.size + 1 + 1, 1, none⟩ vi).heap[k]? = W.heap[k]? := fun k hk =>
    (Below.heap_setCell _ ⟨w.heap.size + 1 + 1, 1, none⟩ vi k hk).trans (Below.heap_setCell W ⟨w.heap.size + 1 + 1, 0, none⟩ vr k hk)
  refine ⟨blk_put (blk_put h.blk 0 vr rfl) 1 vi rfl, h.mp.keep (hother _ (by omega)), h.md.keep (hother _ (by omega)), ?_, ?_, below_set (below_set h.below (by omega)) (by omega), ?_, h.apart⟩
  · obtain ⟨inner, ho', hr⟩ := h.row
    refine ⟨inner, own_move ho' (fun k hk => hother k (fun he => ?_)), hr⟩
    obtain ⟨c1, e1⟩ := h.rowTyped k hk
    rw [he, h.blk] at e1
    cases e1
  · refine Kd.R_of_own (own_move (Kd.own_of_R h.ixr) (fun k hk => hother k (fun he => ?_))) (fun _ _ => trivial)
    obtain ⟨c1, e1⟩ := h.ixTyped k hk
    rw [he, h.blk] at e1
    cases e1
  · have : B9 ≠ w.heap.size + 1 + 1 := fun he => by
      have h1 := h.var
      rw [he, h.blk] at h1
      cases h1
    exact (hother B9 this).trans h.var
end Jx
section
variable {ops : Array Oper} {o : Oper} {a : Act} {K : Act → World → Prop} {Q : Exit → Act → World → Prop} {E : Prop}
theorem step_lies {P : Program} {W : World} (hgd : o.guard = none) (s xo : Operand) (t e : TypeId) (ho : o.op = .call { callee := .builtin .append, args := #[s, xo], argTypes := #[t, t] })
    (ht : P.underlying t = some (.slice e)) (z : Value) (size bytes : Nat) (hinfo : (P.info? e).map (fun i => (i.zero, i.size, i.bytes)) = some (some z, size, bytes)) (hz : z.cells.size = size) (hs0 : 0 < size)
    (base : Nat) (v : Value) (n : Nat) (xs : List Value) (hs : a.eval s = v) (hown : W.ownsRow base e size v n xs) (Bl : Nat) (cs : Array Value) (hx : a.eval xo = .slice (some ⟨Bl, 0, none⟩) 1 1) (hb : W.heap[Bl]? = some (.cells cs e (0, 0))) (hcs : cs.size = size)
    (h1 : ∀ u ∈ cs.toList, u.oneCell' = true) (hbytes : (n + 1) * bytes ≤ 140737488355328) (hby0 : 0 < bytes) (hbase : base ≤ W.heap.size)
    (h : ∀ v' w1, w1.ownsRow base e size v' (n + 1) (xs ++ cs.toList) → W.grownBy w1 v.ownBlock → (∀ k, v'.ownBlock = some k → v.ownBlock = some k ∨ k = W.heap.size) → K (a.put o.dst v') w1) :
    if Region.wanted o (yielded ops a.tmps) = true then Oper.wp P o a W K Q else E := by
  obtain ⟨i, hi, hi1⟩ := Option.map_eq_some_iff.1 hinfo
  injection hi1 with hi1 hi2
  injection hi2 with hi2 hi3
  have hle : (n + 1) ≤ (n + 1) * bytes := Nat.le_mul_of_pos_right _ hby0
  refine step_append_lies W hgd s xo t ho base e i z size bytes ht hi hi1 hi2 hi3 hz hs0 v n xs hs hown ⟨Bl, 0, none⟩ 1 1 cs.toList hx (by simp [hcs]) (World.news_of_block hb) h1 (by omega) (by unfold maxLen; omega) hbytes hbase W.heap.size rfl ?_
  intro g cap w1 ho1 hg1 hat hlt
  refine h _ w1 ho1 hg1 (fun k hk => ?_)
  have : g = k := by simpa [Value.ownBlock] using hk
  subst this
  exact hat
/-- c.rules = append(c.rules, r) -/
theorem step_rule {w W : World} {vf : Value} {B9 : Nat} {X : Array Value} {v0 i0 vr vi : Value} {rs : List S41} {ix : List Int} (hgd : o.guard = none) (s xo : Operand) (ho : o.op = .call { callee := .builtin .append, args := #[s, xo], argTypes := #[24, 24] })
    (hJ : Jx w vf B9 X W v0 i0 vr vi rs ix) (hs : a.eval s = vr) (Bl : Nat) (x : S41) (cs : Array Value) (hx : a.eval xo = .slice (some ⟨Bl, 0, none⟩) 1 1) (hb : W.heap[Bl]? = some (.cells cs 41 (0, 0))) (HK : k41.K w x cs.toList) (hcs : cs.size = 5) (hlen : rs.length ≤ 48)
    (h : ∀ vr' w1, Jx w vf B9 X w1 v0 i0 vr' vi (rs ++ [x]) ix → (∀ (B : Nat) (cs : Array Value), W.heap[B]? = some (.cells cs 2 (0, 0)) → w1.heap[B]? = some (.cells cs 2 (0, 0))) → K (a.put o.dst vr') w1) :
    if Region.wanted o (yielded ops a.tmps) = true then Oper.wp Tryz.prog o a W K Q else E := by
  obtain ⟨inner, hown, hr⟩ := hJ.row
  refine step_lies hgd s xo 24 41 ho Tryz.underlying24 _ 5 56 info41 rfl (by decide) w.heap.size vr rs.length inner hs hown Bl cs hx hb hcs (k41.K_one HK) (by omega) (by decide) hJ.below.size ?_
  intro v' w1 ho1 hg1 hat
  exact h v' w1 (hJ.rowStep hg1 ⟨inner ++ cs.toList, by rw [List.length_append, List.length_singleton]; exact ho1, hr.snoc HK (by simp [hcs])⟩ hat) (fun B cs hB => Jx.blk_keep (t := 2) (e := 41) hB hg1 hJ.rowTyped (by decide))
/-- c.indices = append(c.indices, i) -/
theorem step_index {w W : World} {vf : Value} {B9 : Nat} {X : Array Value} {v0 i0 vr vi : Value} {rs : List S41} {ix : List Int} (hgd : o.guard = none) (s xo : Operand) (ho : o.op = .call { callee := .builtin .append, args := #[s, xo], argTypes := #[26, 26] })
    (hJ : Jx w vf B9 X W v0 i0 vr vi rs ix) (hs : a.eval s = vi) (Bl : Nat) (q : Int) (hx : a.eval xo = .slice (some ⟨Bl, 0, none⟩) 1 1) (hb : W.heap[Bl]? = some (.cells #[.int .i64 q] 2 (0, 0))) (hlen : ix.length ≤ 48)
    (h : ∀ vi' w1, Jx w vf B9 X w1 v0 i0 vr vi' rs (ix ++ [q]) → K (a.put o.dst vi') w1) :
    if Region.wanted o (yielded ops a.tmps) = true then Oper.wp Tryz.prog o a W K Q else E := by
  refine step_lies hgd s xo 26 2 ho Tryz.underlying26 _ 1 8 info2 rfl (by decide) w.heap.size vi ix.length _ hs (Kd.own_of_R hJ.ixr) Bl #[.int .i64 q] hx hb rfl (by intro u hu; simp at hu; subst hu; rfl) (by omega) (by decide) hJ.below.size ?_
  intro v' w1 ho1 hg1 hat
  refine h v' w1 (hJ.ixStep hg1 (Kd.R_of_own ?_ (fun _ _ => trivial)))
  rw [List.length_append, List.length_singleton]
  simpa [encs] using ho1
end
end Go.Proofs.YtoippneeagaceaaGreat.PR

namespace Go.Proofs.YtoippneeagaceaaGreat.PR
open Go.RowKit Go.Proofs.YtoippneeagaceaaGreatW.PrintWords Go.Proofs.YtoippneeagaceaaGreatW.PrintLast Go.Proofs.YtoippneeagaceaaGreatW.PrintMore
set_option linter.unusedVariables false
set_option linter.unusedSimpArgs false
/-- No word and its opposite are facts. -/
def Apart (facts : List Int) : Prop := ∀ y ∈ facts, -y ∉ facts
theorem proves_fact {rules : List S41} {facts : List Int} {P D : Int → Bool} {x : Int} (h : x ∈ facts) : provesB rules facts P D x = true := by
  unfold provesB; rw [decide_eq_true h]; rfl
theorem proves_not {rules : List S41} {facts : List Int} {P D : Int → Bool} {x : Int} (h : x ∉ facts) (h' : -x ∈ facts) : provesB rules facts P D x = false := by
  unfold provesB; rw [decide_eq_false h, decide_eq_true h']; rfl
theorem not_any_eq {α : Type} {l : List α} {p q : α → Bool} (h : ∀ x, (!p x) = q x) : (!l.any p) = l.all q := by
  induction l with
  | nil => rfl
  | cons a r ih => rw [List.any_cons, List.all_cons, Bool.not_or, ih, h]
theorem proves_rules {rules : List S41} {facts : List Int} {P D : Int → Bool} {x : Int} (h : x ∉ facts) (h' : -x ∉ facts) : provesB rules facts P D x = provedB P D rules x := by
  unfold provesB provedB
  rw [decide_eq_false h, decide_eq_false h', Bool.false_or, Bool.not_false, Bool.true_and]
  congr 1
  refine not_any_eq fun s => ?_
  have e : beatenB P rules x s.f4 = rules.any fun t => t.f0 == x && (t.f1.all P && decide (s.f4 < t.f4)) := by
    unfold beatenB headAll
    congr 1
    funext t
    rw [Bool.and_assoc]
  rw [e]
  show (!(s.f0 == -x && !(s.f1.any D || rules.any fun t => t.f0 == x && (t.f1.all P && decide (s.f4 < t.f4))))) = (!(s.f0 == -x) || s.f1.any D || rules.any fun t => t.f0 == x && (t.f1.all P && decide (s.f4 < t.f4)))
  cases s.f0 == -x <;> simp [Bool.or_assoc]
theorem disproves_fact {rules : List S41} {facts : List Int} {P D : Int → Bool} {x : Int} (h : x ∉ facts) (h' : -x ∈ facts) : disprovesB rules facts P D x = true := by
  unfold disprovesB; rw [decide_eq_false h, decide_eq_true h']; rfl
theorem disproves_not {rules : List S41} {facts : List Int} {P D : Int → Bool} {x : Int} (h : x ∈ facts) : disprovesB rules facts P D x = false := by
  unfold disprovesB; rw [decide_eq_true h]; rfl
theorem disproves_rules {rules : List S41} {facts : List Int} {P D : Int → Bool} {x : Int} (h : x ∉ facts) (h' : -x ∉ facts) : disprovesB rules facts P D x = disprovedB P D rules x := by
  unfold disprovesB disprovedB
  rw [decide_eq_false h, decide_eq_false h', Bool.false_or, Bool.not_false, Bool.true_and]
  have eb : beatsB P D rules x = rules.any fun s => s.f0 == -x && (s.f1.all P && !rules.any fun t => t.f0 == x && !(t.f1.any D || decide (t.f4 ≤ s.f4))) := by
    unfold beatsB
    congr 1
    funext s
    unfold beatsG
    have e2 : rules.all (allG D x s) = !rules.any fun t => t.f0 == x && !(t.f1.any D || decide (t.f4 ≤ s.f4)) := by
      refine (not_any_eq fun t => ?_).symm
      unfold allG
      have e3 : decide (t.f4 > s.f4) = !decide (t.f4 ≤ s.f4) := by
        by_cases h : t.f4 ≤ s.f4
        · rw [decide_eq_true h, decide_eq_false (by omega)]; rfl
        · rw [decide_eq_false h, decide_eq_true (by omega)]; rfl
      rw [e3]
      cases t.f0 == x <;> cases t.f1.any D <;> cases decide (t.f4 ≤ s.f4) <;> rfl
    rw [e2]
    show (!(!(s.f0 == -x)) && s.f1.all P && _) = _
    rw [Bool.not_not, Bool.and_assoc]
  rw [← eb]
  generalize beatsB P D rules x = b
  cases b
  · rw [Bool.or_false]
    refine not_any_eq fun t => ?_
    cases t.f0 == x <;> cases t.f1.any D <;> rfl
  · rw [Bool.or_true]
    symm
    rw [List.all_eq_true]
    intro t _
    rw [Bool.or_true]
/-- How many words are open. -/
def muW (P : Int → Bool) : Nat := ((wordsTo 16).filter fun x => !P x).length
def updW (P : Int → Bool) (x : Int) : Int → Bool := fun y => if y = x then true else P y
theorem word_in {x : Int} (h : wordB x = true) : x ∈ wordsTo 16 := by
  have h1 := (wordB_iff x).1 h
  have h2 : x = 1 ∨ x = 2 ∨ x = 3 ∨ x = 4 ∨ x = 5 ∨ x = 6 ∨ x = 7 ∨ x = 8 ∨ x = 9 ∨ x = 10 ∨ x = 11 ∨ x = 12 ∨ x = 13 ∨ x = 14 ∨ x = 15 ∨ x = 16 ∨ x = -1 ∨ x = -2 ∨ x = -3 ∨ x = -4 ∨ x = -5 ∨ x = -6 ∨ x = -7 ∨ x = -8 ∨ x = -9 ∨ x = -10 ∨ x = -11 ∨ x = -12 ∨ x = -13 ∨ x = -14 ∨ x = -15 ∨ x = -16 := by omega
  have h3 : wordsTo 16 = [1, -1, 2, -2, 3, -3, 4, -4, 5, -5, 6, -6, 7, -7, 8, -8, 9, -9, 10, -10, 11, -11, 12, -12, 13, -13, 14, -14, 15, -15, 16, -16] := rfl
  rw [h3]
  rcases h2 with rfl | rfl | rfl | rfl | rfl | rfl | rfl | rfl | rfl | rfl | rfl | rfl | rfl | rfl | rfl | rfl | rfl | rfl | rfl | rfl | rfl | rfl | rfl | rfl | rfl | rfl | rfl | rfl | rfl | rfl | rfl | rfl <;> simp
theorem muW_upd {P : Int → Bool} {x : Int} (hx : wordB x = true) (h : P x = false) : muW (updW P x) < muW P := by
  unfold muW
  refine filter_lt (z := x) ?_ (word_in hx) (by simp [updW]) (by simp [h])
  intro y _ hy
  unfold updW at hy
  by_cases e : y = x
  · simp [e] at hy
  · simpa [e] using hy
theorem muW_le (P : Int → Bool) : muW P ≤ 32 := by
  unfold muW
  exact Nat.le_trans (List.length_filter_le _ _) (by rw [wordsTo_len]; exact Nat.le_refl _)
structure InvC (rules : List S41) (facts : List Int) (m0 : Nat) (more : Bool) (P D : Int → Bool) (done : Int → Prop) : Prop where
  yes : ∀ x, wordB x = true → P x = true → YesP rules facts x
  no : ∀ x, wordB x = true → D x = true → NoP rules facts x
  less : more = true → muW P + muW D < m0
  same : more = false → muW P + muW D = m0
  closed : more = false → ∀ x, done x → (provesB rules facts P D x = true → P x = true) ∧ (disprovesB rules facts P D x = true → D x = true)
section
variable {rules : List S41} {facts : List Int} {m0 : Nat} {more : Bool} {P D : Int → Bool} {done done' : Int → Prop}
theorem InvC.begin_ (h1 : ∀ x, wordB x = true → P x = true → YesP rules facts x) (h2 : ∀ x, wordB x = true → D x = true → NoP rules facts x) : InvC rules facts (muW P + muW D) false P D (fun _ => False) :=
  ⟨h1, h2, (fun e => by cases e), fun _ => rfl, fun _ _ h => h.elim⟩
theorem InvC.mono (h : InvC rules facts m0 more P D done) (hd : ∀ x, done' x → done x) : InvC rules facts m0 more P D done' := ⟨h.yes, h.no, h.less, h.same, fun e x hx => h.closed e x (hd x hx)⟩
/-- A word is proved. -/
theorem InvC.proved (h : InvC rules facts m0 more P D done) (hw : RuleWords rules) {x : Int} (hx : wordB x = true) (h1 : P x = false) (h2 : provesB rules facts P D x = true) : InvC rules facts m0 true (updW P x) D done' := by
  have hm := muW_upd hx h1
  refine ⟨fun y hy hp => ?_, h.no, fun _ => ?_, fun e => (by cases e), fun e => (by cases e)⟩
  · unfold updW at hp
    by_cases e : y = x
    · subst e
      intro P' D' hc
      by_cases hf : y ∈ facts
      · exact (hc.fact y hf).1
      · by_cases hn : -y ∈ facts
        · rw [proves_not hf hn] at h2; cases h2
        · rw [proves_rules hf hn] at h2
          exact hc.yes y hy hf hn (proved_mono hw (fun z hz hp => h.yes z hz hp P' D' hc) (fun z hz hp => h.no z hz hp P' D' hc) h2)
    · rw [if_neg e] at hp
      exact h.yes y hy hp
  · cases more with
    | true => have := h.less rfl; omega
    | false => have := h.same rfl; omega
theorem InvC.disproved (h : InvC rules facts m0 more P D done) (hw : RuleWords rules) {x : Int} (hx : wordB x = true) (h1 : D x = false) (h2 : disprovesB rules facts P D x = true) : InvC rules facts m0 true P (updW D x) done' := by
  have hm := muW_upd hx h1
  refine ⟨h.yes, fun y hy hp => ?_, fun _ => ?_, fun e => (by cases e), fun e => (by cases e)⟩
  · unfold updW at hp
    by_cases e : y = x
    · subst e
      intro P' D' hc
      by_cases hf : y ∈ facts
      · rw [disproves_not hf] at h2; cases h2
      · by_cases hn : -y ∈ facts
        · have := (hc.fact (-y) hn).2
          rwa [Int.neg_neg] at this
        · rw [disproves_rules hf hn] at h2
          exact hc.no y hy hf hn (disproved_mono hw (fun z hz hp => h.yes z hz hp P' D' hc) (fun z hz hp => h.no z hz hp P' D' hc) h2)
    · rw [if_neg e] at hp
      exact h.no y hy hp
  · cases more with
    | true => have := h.less rfl; omega
    | false => have := h.same rfl; omega
/-- Between the two looks at a word. -/
structure MidC (rules : List S41) (facts : List Int) (m0 : Nat) (more : Bool) (P D : Int → Bool) (done : Int → Prop) (x : Int) : Prop where
  inv : InvC rules facts m0 more P D done
  yes : more = false → provesB rules facts P D x = true → P x = true
theorem InvC.mid (h : InvC rules facts m0 more P D done) {x : Int} (ht : false = (!P x && provesB rules facts P D x)) : MidC rules facts m0 more P D done x := ⟨h, fun _ hp => ht_false ht hp⟩
theorem MidC.next {x : Int} (h : MidC rules facts m0 more P D done x) (ht : false = (!D x && disprovesB rules facts P D x)) (hd : ∀ z, done' z → done z ∨ z = x) : InvC rules facts m0 more P D done' :=
  ⟨h.inv.yes, h.inv.no, h.inv.less, h.inv.same, fun e z hz => by
    rcases hd z hz with hz | rfl
    · exact h.inv.closed e z hz
    · exact ⟨h.yes e, fun hp => ht_false ht hp⟩⟩
theorem InvC.ends (h : InvC rules facts m0 false P D done) (hf : ∀ y ∈ facts, wordB y = true) (ha : Apart facts) (hd : ∀ x, wordB x = true → done x) :
    (∀ x, wordB x = true → (P x = true ↔ YesP rules facts x)) ∧ ∀ x, wordB x = true → (D x = true ↔ NoP rules facts x) := by
  have hc : Closed rules facts P D := by
    refine ⟨fun y hy => ⟨(h.closed rfl y (hd y (hf y hy))).1 (proves_fact hy), ?_⟩, fun x hx h1 h2 hp => (h.closed rfl x (hd x hx)).1 (by rw [proves_rules h1 h2]; exact hp), fun x hx h1 h2 hp => (h.closed rfl x (hd x hx)).2 (by rw [disproves_rules h1 h2]; exact hp)⟩
    exact (h.closed rfl (-y) (hd (-y) (wordB_neg (hf y hy)))).2 (disproves_fact (ha y hy) (by rw [Int.neg_neg]; exact hy))
  exact ⟨fun x hx => ⟨h.yes x hx, fun hy => hy _ _ hc⟩, fun x hx => ⟨h.no x hx, fun hy => hy _ _ hc⟩⟩
end
theorem from_apart {l : List Int} : ∀ {p : Int}, wordsFrom p l = true → ∀ y ∈ l, p < atm y := by
  induction l with
  | nil => intro p _ y hy; cases hy
  | cons x r ih =>
    intro p h y hy
    unfold wordsFrom at h
    rw [Bool.and_eq_true, Bool.and_eq_true] at h
    rcases List.mem_cons.1 hy with rfl | hy
    · exact of_decide_eq_true h.2.1
    · have := ih h.2.2 y hy
      have := of_decide_eq_true h.2.1
      omega
theorem apart_from {l : List Int} : ∀ {p : Int}, wordsFrom p l = true → Apart l := by
  induction l with
  | nil => intro p _ y hy; cases hy
  | cons x r ih =>
    intro p h y hy hn
    unfold wordsFrom at h
    rw [Bool.and_eq_true, Bool.and_eq_true] at h
    have hx := (wordB_iff x).1 h.1
    have key : ∀ z ∈ r, z ≠ -x ∧ z ≠ x := fun z hz => by
      have := from_apart h.2.2 z hz
      unfold atm at this
      constructor <;> (intro e; rw [e] at this; split at this <;> (try split at this) <;> omega)
    rcases List.mem_cons.1 hy with rfl | hy'
    · rcases List.mem_cons.1 hn with e | hn'
      · omega
      · exact (key _ hn').1 rfl
    · rcases List.mem_cons.1 hn with e | hn'
      · have := key y hy'; omega
      · exact ih h.2.2 y hy' hn'
theorem words_apart {l : List Int} (h : wordsB l = true) : Apart l := apart_from h
end Go.Proofs.YtoippneeagaceaaGreat.PR

namespace Go.Proofs.YtoippneeagaceaaGreat.PR
open Go.RowKit Go.Shelf Go.Proofs.YtoippneeagaceaaGreatW.PrintWords Go.Proofs.YtoippneeagaceaaGreatW.PrintLast Go.Proofs.YtoippneeagaceaaGreatW.PrintMore
set_option linter.unusedVariables false
set_option linter.unusedSimpArgs false
theorem isActive_eq (x : S41) (day : Int) : impl_Rule_isActive.f x.f0 x.f1 x.f2 x.f3 x.f4 day = some (onB day x) := by
  unfold impl_Rule_isActive.f onB
  by_cases h : x.f2 ≤ day
  · rw [if_pos h, decide_eq_true h, Bool.true_and]
  · rw [if_neg h, decide_eq_false h, Bool.false_and]
theorem elem41k {w wr : World} {A : Option Addr} {xs : List S41} {n : Nat} (HR : Kd.C k41 w A xs.length xs) (HB : Below w.heap.size w wr) (hlt : n < xs.length) :
    ∃ (ad : Addr) (A1 : Option Addr) (c1 : Nat) (x : S41), A = some ad ∧ xs.getD n z41 = x ∧ x ∈ xs ∧ xs.drop n = x :: xs.drop (n + 1) ∧
      wr.cell? (ad.add (n * 5)) = some (.int .i64 x.f0) ∧ wr.cell? ⟨(ad.add (n * 5)).block, (ad.add (n * 5)).off + 1, none⟩ = some (.slice A1 x.f1.length c1) ∧
      wr.cell? ⟨(ad.add (n * 5)).block, (ad.add (n * 5)).off + 2, none⟩ = some (.int .i64 x.f2) ∧ wr.cell? ⟨(ad.add (n * 5)).block, (ad.add (n * 5)).off + 3, none⟩ = some (.int .i64 x.f3) ∧
      wr.cell? ⟨(ad.add (n * 5)).block, (ad.add (n * 5)).off + 4, none⟩ = some (.int .i64 x.f4) ∧ x.f1.length ≤ c1 ∧ Kd.C (Kd.int .i64) wr A1 x.f1.length x.f1 ∧ k41.K w x [.int .i64 x.f0, .slice A1 x.f1.length c1, .int .i64 x.f2, .int .i64 x.f3, .int .i64 x.f4] := by
  obtain ⟨ad, A1, c1, e, hx0, hx1, hx2, hx3, hx4, hl1, hi1⟩ := at_T41 HR (n : Int) (by omega) (by omega)
  simp only [Int.toNat_natCast] at hx0 hx1 hx2 hx3 hx4
  have hx : rd_T41 xs (n : Int) = xs.getD n z41 := by simp [rd_T41]
  refine ⟨ad, A1, c1, rd_T41 xs (n : Int), e, hx.symm, ?_, ?_, pw_cell_below HB hx0, pw_cell_below HB hx1, pw_cell_below HB hx2, pw_cell_below HB hx3, pw_cell_below HB hx4, hl1, Kd.C_below hi1 HB, k41_mk w _ hl1 hi1⟩
  · rw [hx]; simp [hlt]
  · rw [hx]; exact drop_cons z41 xs n hlt
theorem blk_newN {W : World} {o : Obj} {n : Nat} (h : n = W.heap.size) : (W.alloc o).heap[n]? = some o := by rw [h]; exact blk_new W o
/-- The court while the active rules are gathered, between the rounds. -/
structure Jw (w : World) (vf : Value) (W : World) (vr vi : Value) (rs : List S41) (ix : List Int) : Prop where
  blk : W.heap[w.heap.size + 1 + 1]? = some (.cells #[vr, vi, vf, .map (some w.heap.size), .map (some (w.heap.size + 1))] 58 (0, 0))
  mp : BMap W w.heap.size 0 (fun _ => false)
  md : BMap W (w.heap.size + 1) 0 (fun _ => false)
  row : OwnRow (k41.K w) 41 5 W w.heap.size vr rs
  ixr : Kd.R (Kd.int .i64) 2 W w.heap.size (fun _ => True) vi ix
  below : Below w.heap.size w W
theorem Jw.later {w W W' : World} {vf vr vi : Value} {rs : List S41} {ix : List Int} (h : Jw w vf W vr vi rs ix) (hb : Below W.heap.size W W') : Jw w vf W' vr vi rs ix :=
  ⟨blk_below h.blk hb, h.mp.below hb, h.md.below hb, h.row.below hb, Kd.R_below h.ixr hb, below_step h.below hb⟩
theorem Jw.start (w : World) (vf : Value) : Jw w vf (((w.alloc (.map #[] 0)).alloc (.map #[] 0)).alloc (.cells #[.slice none 0 0, .slice none 0 0, vf, .map (some w.heap.size), .map (some (w.heap.size + 1))] 58)) (.slice none 0 0) (.slice none 0 0) [] [] := by
  have h1 := BMap.made w
  have h2 := BMap.made (w.alloc (.map #[] 0))
  have e1 : (w.alloc (.map #[] 0)).heap.size = w.heap.size + 1 := by simp
  rw [e1] at h2
  refine ⟨blk_newN (by simp), (h1.below (below_alloc (Below.refl _ _) _)).below (below_alloc (Below.refl _ _) _), h2.below (below_alloc (Below.refl _ _) _), OwnRow.none_ _ _ _ _ _, Kd.R_nil _ _ _ _ _, below_alloc (below_alloc (below_alloc (Below.refl _ _) _) _) _⟩
/-- A rule lies in a block of its own that has just been made. -/
theorem Jw.toX {w W W' : World} {vf vr vi : Value} {rs : List S41} {ix : List Int} {X : Array Value} (h : Jw w vf W vr vi rs ix) (hb : Below (W.alloc (.cells X 41)).heap.size (W.alloc (.cells X 41)) W') : Jx w vf W.heap.size X W' vr vi vr vi rs ix := by
  have h2 := (h.later (below_alloc (Below.refl _ _) _)).later hb
  refine ⟨h2.blk, h2.mp, h2.md, h2.row, h2.ixr, h2.below, blk_below (blk_new W _) hb, fun k hk => ?_⟩
  obtain ⟨inner, ho, _⟩ := h.row
  have := own_lt ho k hk
  omega
theorem Jx.toW {w W : World} {vf vr vi : Value} {B9 : Nat} {X : Array Value} {rs : List S41} {ix : List Int} (h : Jx w vf B9 X W vr vi vr vi rs ix) : Jw w vf W vr vi rs ix := ⟨h.blk, h.mp, h.md, h.row, h.ixr, h.below⟩
/-- What holds till the court's cells are written: they hold what they held; the rule's cells. -/
def Hs (w : World) (v0 i0 : Value) (B9 : Nat) (a0 a1 a2 a3 a4 : Value) (W : World) : Prop :=
  W.cell? ⟨w.heap.size + 1 + 1, 0, none⟩ = some v0 ∧ W.cell? ⟨w.heap.size + 1 + 1, 1, none⟩ = some i0 ∧
      W.cell? ⟨B9, 0, none⟩ = some a0 ∧ W.cell? ⟨B9, 1, none⟩ = some a1 ∧ W.cell? ⟨B9, 2, none⟩ = some a2 ∧ W.cell? ⟨B9, 3, none⟩ = some a3 ∧ W.cell? ⟨B9, 4, none⟩ = some a4
theorem Jx.held {w W : World} {vf v0 i0 vr vi a0 a1 a2 a3 a4 : Value} {B9 : Nat} {rs : List S41} {ix : List Int} (h : Jx w vf B9 #[a0, a1, a2, a3, a4] W v0 i0 vr vi rs ix) : Hs w v0 i0 B9 a0 a1 a2 a3 a4 W :=
  ⟨blk_cell h.blk 0, blk_cell h.blk 1, blk_cell h.var 0, blk_cell h.var 1, blk_cell h.var 2, blk_cell h.var 3, blk_cell h.var 4⟩
/-- The court while it goes through the words. -/
structure Jc (w : World) (vf : Value) (W : World) (vr vi : Value) (rs : List S41) (ix : List Int) (P D : Int → Bool) (n1 n2 : Nat) : Prop where
  blk : W.heap[w.heap.size + 1 + 1]? = some (.cells #[vr, vi, vf, .map (some w.heap.size), .map (some (w.heap.size + 1))] 58 (0, 0))
  mp : BMap W w.heap.size n1 P
  md : BMap W (w.heap.size + 1) n2 D
  row : OwnRow (k41.K w) 41 5 W w.heap.size vr rs
  ixr : Kd.R (Kd.int .i64) 2 W w.heap.size (fun _ => True) vi ix
  below : Below w.heap.size w W
theorem Jw.toC {w W : World} {vf vr vi : Value} {rs : List S41} {ix : List Int} (h : Jw w vf W vr vi rs ix) : Jc w vf W vr vi rs ix (fun _ => false) (fun _ => false) 0 0 := ⟨h.blk, h.mp, h.md, h.row, h.ixr, h.below⟩
section
variable {w W W' : World} {vf vr vi : Value} {rs : List S41} {ix : List Int} {P D : Int → Bool} {n1 n2 : Nat}
theorem Jc.later (h : Jc w vf W vr vi rs ix P D n1 n2) (hb : Below W.heap.size W W') : Jc w vf W' vr vi rs ix P D n1 n2 :=
  ⟨blk_below h.blk hb, h.mp.below hb, h.md.below hb, h.row.below hb, Kd.R_below h.ixr hb, below_step h.below hb⟩
theorem row_apart {b n : Nat} {M : Int → Bool} {e size base : Nat} {v : Value} {k : Nat} {xs : List Value} (hm : BMap W b n M) (h : W.ownsRow base e size v k xs) : ∀ q, v.ownBlock = some q → q ≠ b := fun q hq he => by
  obtain ⟨cs, e1⟩ := own_typed h q hq
  obtain ⟨D, ⟨es, clock, h2, _⟩, _⟩ := hm
  rw [he, h2] at e1
  cases e1
theorem own_map {b n : Nat} {M : Int → Bool} {e size base : Nat} {v : Value} {k : Nat} {xs : List Value} (hm : BMap W b n M) (h : W.ownsRow base e size v k xs) (hg : W.grownBy W' (some b)) : W'.ownsRow base e size v k xs :=
  own_move h (fun q hq => hg.block q (own_lt h q hq) (fun he => by injection he with he; exact row_apart hm h q hq he))
theorem Jc.setP {M : Int → Bool} {n : Nat} (h : Jc w vf W vr vi rs ix P D n1 n2) (hm : BMap W' w.heap.size n M) (hg : W.grownBy W' (some w.heap.size)) : Jc w vf W' vr vi rs ix M D n n2 := by
  obtain ⟨inner, ho, hr⟩ := h.row
  refine ⟨blk_grown h.blk hg (fun e => by injection e with e; omega), hm, h.md.keep (hg.block _ h.md.lt (fun e => by injection e with e; omega)), ⟨inner, own_map h.mp ho hg, hr⟩, Kd.R_of_own (own_map h.mp (Kd.own_of_R h.ixr) hg) (fun _ _ => trivial), pw_below_grown h.below _ h.below.size hg (fun k hk => by injection hk with hk; omega)⟩
theorem Jc.setD {M : Int → Bool} {n : Nat} (h : Jc w vf W vr vi rs ix P D n1 n2) (hm : BMap W' (w.heap.size + 1) n M) (hg : W.grownBy W' (some (w.heap.size + 1))) : Jc w vf W' vr vi rs ix P M n1 n := by
  obtain ⟨inner, ho, hr⟩ := h.row
  refine ⟨blk_grown h.blk hg (fun e => by injection e with e; omega), h.mp.keep (hg.block _ h.mp.lt (fun e => by injection e with e; omega)), hm, ⟨inner, own_map h.md ho hg, hr⟩, Kd.R_of_own (own_map h.md (Kd.own_of_R h.ixr) hg) (fun _ _ => trivial), pw_below_grown h.below _ h.below.size hg (fun k hk => by injection hk with hk; omega)⟩
theorem Jc.court {A1 : Option Addr} {c1 : Nat} {l1 : List Int} (h : Jc w (.slice A1 l1.length c1) W vr vi rs ix P D n1 n2) (hC : Kd.C (Kd.int .i64) w A1 l1.length l1) (hc1 : l1.length ≤ c1) : Court W (w.heap.size + 1 + 1) rs ix l1 P D := by
  obtain ⟨Ar, cr, rfl, hcr, hr⟩ := own_C h.row h.below
  obtain ⟨Ai, ci, rfl, hci, hi⟩ := Kd.R_reads h.ixr
  exact ⟨Ar, cr, Ai, ci, A1, c1, w.heap.size, w.heap.size + 1, n1, n2, h.blk, hr, hcr, hi, hci, Kd.C_below hC h.below, hc1, h.mp, h.md⟩
end
theorem words_f : impl_words.f 20 = some (wordsTo 16) := by kernel_rfl
theorem wf_word {x : Int} (hx : wordB x = true) : (Lit.int .i64 x).wf = true := WalkArith.wf_i64 (by have := (wordB_iff x).1 hx; omega)
theorem take_word {n : Nat} (h : n < 32) {x : Int} (hx : (wordsTo 16).getD n 0 = x) : ∀ z, z ∈ (wordsTo 16).take (n + 1) → z ∈ (wordsTo 16).take n ∨ z = x := fun z hz => by
  rw [List.take_succ_eq_append_getElem (by rw [wordsTo_len]; exact h), List.mem_append, List.mem_singleton] at hz
  rcases hz with hz | hz
  · exact .inl hz
  · refine .inr (hz.trans ?_)
    rw [← hx]
    simp [wordsTo_len, h]
set_option maxHeartbeats 8000000 in
set_option maxRecDepth 100000 in
theorem judged_calls (A0 : Option Addr) (c0 : Nat) (l0 : List S41) (A1 : Option Addr) (c1 : Nat) (l1 : List Int) (day : Int) (w : World) (hr0 : Kd.C k41 w A0 l0.length l0) (hl0 : l0.length ≤ 24) (hr1 : Kd.C (Kd.int .i64) w A1 l1.length l1) (hc1 : l1.length ≤ c1)
    (hw : RuleWords l0) (hf : ∀ y ∈ l1, wordB y = true) (hap : Apart l1) :
    Calls Tryz.prog 37 #[.slice A0 l0.length c0, .slice A1 l1.length c1, .int .i64 day] w fun e w' => ∃ g : Nat, e = .returned (.pointer (some ⟨g, 0, none⟩)) ∧ ∃ P D : Int → Bool, Court w' g (l0.filter (onB day)) (actIdx day l0) l1 P D ∧ Below w.heap.size w w' ∧
      (∀ x, wordB x = true → (P x = true ↔ YesP (l0.filter (onB day)) l1 x)) ∧ (∀ x, wordB x = true → (D x = true ↔ NoP (l0.filter (onB day)) l1 x)) := by
  have HR := Aside0.mk hr0
  have hm : l0.length ≤ 9223372036854775807 := by omega
  have HL := Aside0.mk hl0
  have HR1 := Aside0.mk hr1
  have HF := Aside0.mk hf
  have HW := Aside0.mk hw
  have HAp := Aside0.mk hap
  clear hr0 hr1 hf hw hl0 hap
  go_enter Tryz.func37, Tryz.ntmps37
  have hmk : ∀ W : World, (Instr.makeMap 56 none).run Tryz.prog W = .ok (.map (some W.heap.size)) (W.alloc (.map #[] 0)) := fun W => rfl
  go_wp2
  go_loopg [8, 9, 20] l0.length (fun gg _ _ s20 wr => ∃ (n : Nat) (vr vi : Value) (rs : List S41) (ix : List Int), n ≤ l0.length ∧ l0.length - n ≤ gg ∧ s20 = .int .i64 n ∧ Aside0 (Jw w (.slice A1 l1.length c1) wr vr vi rs ix) ∧ Aside0 (rs.length ≤ n ∧ ix.length ≤ n ∧ l0.filter (onB day) = rs ++ (l0.drop n).filter (onB day) ∧ actIdx day l0 = ix ++ actFrom day n (l0.drop n)))
  case atStart =>
    exact ⟨0, .slice none 0 0, .slice none 0 0, [], [], Nat.zero_le _, by omega, rfl, ⟨Jw.start w _⟩, ⟨Nat.zero_le _, Nat.zero_le _, rfl, rfl⟩⟩
  case round =>
    clear hmk
    obtain ⟨n, vr, vi, rs, ix, hn, hg, rfl, HJ, HI⟩ := hrel
    by_cases hlt : n < l0.length
    · have hltz : (n : Int) < (l0.length : Int) := by omega
      obtain ⟨ad, A3, c3, x, e, hge, hmem, hdr, hx0, hx1, hx2, hx3, hx4, hl1, hi1, HK⟩ := elem41k HR.out HJ.out.below hlt
      cases e
      have HS := Aside0.mk hdr
      have HKK := Aside0.mk HK
      have hcall := fun W (hB : Below wr.heap.size wr W) => impl_Rule_isActive.calls x.f0 A3 c3 x.f1 x.f2 x.f3 x.f4 day (onB day x) W (Kd.C_below hi1 hB) hl1 (isActive_eq x day)
      clear hge hdr hl1 hi1 HK
      cases hq : onB day x with
      | false =>
        rw [hq] at hcall
        have HC := Aside0.mk hcall
        have HE := Aside0.mk (show l0.filter (onB day) = rs ++ (l0.drop (n + 1)).filter (onB day) ∧ actIdx day l0 = ix ++ actFrom day (n + 1) (l0.drop (n + 1)) from ⟨HI.out.2.2.1.trans (by rw [HS.out, filter_off hq]), HI.out.2.2.2.trans (by rw [HS.out, actFrom_off hq])⟩)
        clear hcall hq
        go_wp2_with (go_at_call 59; (with_reducible refine (HC.out _ (below_alloc (Below.refl _ _) _)).mono ?_); rintro e w' ⟨rfl, hb⟩; have HJ2 := Aside0.mk ((HJ.out.later (below_alloc (Below.refl _ _) _)).later hb); clear hb)
        go_roundg (l0.length - (n + 1))
        case measure => omega
        case rel => exact ⟨n + 1, vr, vi, rs, ix, by omega, by omega, by go_num, HJ2, ⟨by have := HI.out.1; omega, by have := HI.out.2.1; omega, HE.out⟩⟩
      | true =>
        rw [hq] at hcall
        have HC := Aside0.mk hcall
        have HE := Aside0.mk (show l0.filter (onB day) = (rs ++ [x]) ++ (l0.drop (n + 1)).filter (onB day) ∧ actIdx day l0 = (ix ++ [(n : Int)]) ++ actFrom day (n + 1) (l0.drop (n + 1)) from ⟨HI.out.2.2.1.trans (by rw [HS.out, filter_on hq, List.append_cons]), HI.out.2.2.2.trans (by rw [HS.out, actFrom_on hq, List.append_cons])⟩)
        have hlr : rs.length ≤ 48 := by have := HI.out.1; have := HL.out; omega
        have hli : ix.length ≤ 48 := by have := HI.out.2.1; have := HL.out; omega
        clear hcall hq
        go_wp2_with (go_at_call 59; (with_reducible refine (HC.out _ (below_alloc (Below.refl _ _) _)).mono ?_); rintro e w' ⟨rfl, hb⟩; have HX := Aside0.mk (HJ.out.toX hb); clear hb)
        obtain ⟨B9, hB9⟩ : ∃ B9, B9 = wr.heap.size := ⟨_, rfl⟩
        rw [← hB9] at HX ⊢
        have k0 : w'.cell? ⟨w.heap.size + 1 + 1, 0, none⟩ = some vr := blk_cell HX.out.blk 0
        have k1 : w'.cell? ⟨w.heap.size + 1 + 1, 1, none⟩ = some vi := blk_cell HX.out.blk 1
        clear hx0 hx1 hx2 hx3 hx4 hmem hB9
        refine wp_region_T (fun w9 => Hs w vr vi B9 (.int .i64 x.f0) (.slice A3 x.f1.length c3) (.int .i64 x.f2) (.int .i64 x.f3) (.int .i64 x.f4) w9) 18 (by kernel_rfl) ?_
        have HS0 := Aside0.mk (HX.out.later (W' := w'.drew) (below_drew1 (Below.refl _ _))).held
        refine wpAnyT_take' (i := 0) (oi := { dst := some 28, op := Op.move (Operand.tmp 7), type := 59, pos := "l05_rules.go:89", after := #[], guard := none }) (v := ?v1) rfl (by kernel_rfl) (by kernel_rfl) (by kernel_rfl) (by kernel_rfl) (fun _ _ _ h => h) (Or.inl ⟨by rfl, ?hy1⟩) (fun _ => HS0.out) ?rest1
        case hy1 => (intro w9 _; go_simp; (try with_reducible rfl))
        case rest1 =>
        try simp only [Act.put, List.setIfInBounds_toArray, List.set_cons_zero, List.set_cons_succ]
        refine wpAnyT_take' (i := 1) (oi := { dst := some 29, op := Op.move (Operand.tmp 7), type := 59, pos := "l05_rules.go:89", after := #[{ on := 18, ground := Ground.gcOnly Departure.lateStores }], guard := none }) (v := ?v2) rfl (by kernel_rfl) (by kernel_rfl) (by kernel_rfl) (by kernel_rfl) (fun _ _ _ h => h) (Or.inl ⟨by rfl, ?hy2⟩) (fun _ => HS0.out) ?rest2
        case hy2 => (intro w9 _; go_simp; (try with_reducible rfl))
        case rest2 =>
        try simp only [Act.put, List.setIfInBounds_toArray, List.set_cons_zero, List.set_cons_succ]
        refine wpAnyT_take' (i := 2) (oi := { dst := some 30, op := Op.move (Operand.tmp 7), type := 59, pos := "l05_rules.go:89", after := #[], guard := none }) (v := ?v3) rfl (by kernel_rfl) (by kernel_rfl) (by kernel_rfl) (by kernel_rfl) (fun _ _ _ h => h) (Or.inl ⟨by rfl, ?hy3⟩) (fun _ => HS0.out) ?rest3
        case hy3 => (intro w9 _; go_simp; (try with_reducible rfl))
        case rest3 =>
        try simp only [Act.put, List.setIfInBounds_toArray, List.set_cons_zero, List.set_cons_succ]
        refine wpAnyT_take' (i := 3) (oi := { dst := some 31, op := Op.nilCheck (Operand.tmp 30), type := 0, pos := "l05_rules.go:89", after := #[{ on := 2, ground := Ground.data }], guard := none }) (v := ?v4) rfl (by kernel_rfl) (by kernel_rfl) (by kernel_rfl) (by kernel_rfl) (fun _ _ _ h => h) (Or.inl ⟨by rfl, ?hy4⟩) (fun _ => HS0.out) ?rest4
        case hy4 => (intro w9 _; go_simp; (try with_reducible rfl))
        case rest4 =>
        try simp only [Act.put, List.setIfInBounds_toArray, List.set_cons_zero, List.set_cons_succ]
        refine wpAnyT_take' (i := 4) (oi := { dst := some 32, op := Op.fieldAddr 58 (Operand.tmp 31) 0, type := 0, pos := "l05_rules.go:89", after := #[{ on := 3, ground := Ground.data }], guard := none }) (v := ?v5) rfl (by kernel_rfl) (by kernel_rfl) (by kernel_rfl) (by kernel_rfl) (fun _ _ _ h => h) (Or.inl ⟨by rfl, ?hy5⟩) (fun _ => HS0.out) ?rest5
        case hy5 => (intro w9 _; go_simp; (try with_reducible rfl))
        case rest5 =>
        try simp only [Act.put, List.setIfInBounds_toArray, List.set_cons_zero, List.set_cons_succ]
        refine wpAnyT_take (i := 5) (oi := { dst := some 33, op := Op.load 24 (Operand.tmp 32), type := 24, pos := "l05_rules.go:89", after := #[{ on := 4, ground := Ground.data }], guard := none }) (v := ?v6) rfl (by kernel_rfl) (by kernel_rfl) (by kernel_rfl) (by kernel_rfl) (by kernel_rfl) (fun _ _ _ h => h) (Or.inl ⟨by rfl, ?hy6⟩) HS0.out ?rest6
        case hy6 => (intro w9 hS9; (try dsimp only [Hs] at hS9); go_split_ands; go_simp; (try with_reducible rfl))
        case rest6 =>
        try simp only [Act.put, List.setIfInBounds_toArray, List.set_cons_zero, List.set_cons_succ]
        refine wpAnyT_take (i := 6) (oi := { dst := some 34, op := Op.load 41 (Operand.tmp 9), type := 41, pos := "l05_rules.go:89", after := #[], guard := none }) (v := ?v7) rfl (by kernel_rfl) (by kernel_rfl) (by kernel_rfl) (by kernel_rfl) (by kernel_rfl) (fun _ _ _ h => h) (Or.inl ⟨by rfl, ?hy7⟩) HS0.out ?rest7
        case hy7 => (intro w9 hS9; (try dsimp only [Hs] at hS9); go_split_ands; go_simp; (try with_reducible rfl))
        case rest7 =>
        try simp only [Act.put, List.setIfInBounds_toArray, List.set_cons_zero, List.set_cons_succ]
        refine wpAnyT_take' (i := 9) (oi := { dst := some 37, op := Op.move (Operand.tmp 7), type := 59, pos := "l05_rules.go:89", after := #[], guard := none }) (v := ?v8) rfl (by kernel_rfl) (by kernel_rfl) (by kernel_rfl) (by kernel_rfl) (fun _ _ _ h => h) (Or.inl ⟨by rfl, ?hy8⟩) (fun _ => HS0.out) ?rest8
        case hy8 => (intro w9 _; go_simp; (try with_reducible rfl))
        case rest8 =>
        try simp only [Act.put, List.setIfInBounds_toArray, List.set_cons_zero, List.set_cons_succ]
        refine wpAnyT_take' (i := 10) (oi := { dst := some 38, op := Op.nilCheck (Operand.tmp 37), type := 0, pos := "l05_rules.go:89", after := #[{ on := 9, ground := Ground.data }], guard := none }) (v := ?v9) rfl (by kernel_rfl) (by kernel_rfl) (by kernel_rfl) (by kernel_rfl) (fun _ _ _ h => h) (Or.inl ⟨by rfl, ?hy9⟩) (fun _ => HS0.out) ?rest9
        case hy9 => (intro w9 _; go_simp; (try with_reducible rfl))
        case rest9 =>
        try simp only [Act.put, List.setIfInBounds_toArray, List.set_cons_zero, List.set_cons_succ]
        refine wpAnyT_take' (i := 11) (oi := { dst := some 39, op := Op.fieldAddr 58 (Operand.tmp 38) 1, type := 0, pos := "l05_rules.go:89", after := #[{ on := 10, ground := Ground.data }], guard := none }) (v := ?v10) rfl (by kernel_rfl) (by kernel_rfl) (by kernel_rfl) (by kernel_rfl) (fun _ _ _ h => h) (Or.inl ⟨by rfl, ?hy10⟩) (fun _ => HS0.out) ?rest10
        case hy10 => (intro w9 _; go_simp; (try with_reducible rfl))
        case rest10 =>
        try simp only [Act.put, List.setIfInBounds_toArray, List.set_cons_zero, List.set_cons_succ]
        refine wpAnyT_take (i := 12) (oi := { dst := some 40, op := Op.load 26 (Operand.tmp 39), type := 26, pos := "l05_rules.go:89", after := #[{ on := 11, ground := Ground.data }], guard := none }) (v := ?v11) rfl (by kernel_rfl) (by kernel_rfl) (by kernel_rfl) (by kernel_rfl) (by kernel_rfl) (fun _ _ _ h => h) (Or.inl ⟨by rfl, ?hy11⟩) HS0.out ?rest11
        case hy11 => (intro w9 hS9; (try dsimp only [Hs] at hS9); go_split_ands; go_simp; (try with_reducible rfl))
        case rest11 =>
        try simp only [Act.put, List.setIfInBounds_toArray, List.set_cons_zero, List.set_cons_succ]
        refine wpAnyT_take' (i := 13) (oi := { dst := some 41, op := Op.move (Operand.tmp 8), type := 3, pos := "l05_rules.go:89", after := #[], guard := none }) (v := ?v12) rfl (by kernel_rfl) (by kernel_rfl) (by kernel_rfl) (by kernel_rfl) (fun _ _ _ h => h) (Or.inl ⟨by rfl, ?hy12⟩) (fun _ => HS0.out) ?rest12
        case hy12 => (intro w9 _; go_simp; (try with_reducible rfl))
        case rest12 =>
        try simp only [Act.put, List.setIfInBounds_toArray, List.set_cons_zero, List.set_cons_succ]
        refine wpAnyT_ready (rs := [7, 14]) (by kernel_rfl) (by simp) ?_
        refine AllReadyT.cons (o := { dst := some 35, op := Op.buildSlice 24 1 #[(0, Operand.tmp 34)], type := 24, pos := "l05_rules.go:89", after := #[{ on := 6, ground := Ground.data }], guard := none }) rfl (fun K hK => ?_) ?_
        · skip
          go_simp
          refine hK.out _ _ (HX.out.later (by repeat (first | exact Below.refl _ _ | apply below_alloc | apply below_drew1))).held ?_
          clear hK K
          try simp only [Act.put, List.setIfInBounds_toArray, List.set_cons_zero, List.set_cons_succ]
          refine wpAnyT_ready (rs := [8, 14]) (by kernel_rfl) (by simp) ?_
          refine AllReadyT.cons (o := { dst := some 36, op := Op.call { callee := Callee.builtin Builtin.append, args := #[Operand.tmp 33, Operand.tmp 35], argTypes := #[24, 24] }, type := 24, pos := "l05_rules.go:89", after := #[{ on := 5, ground := Ground.data }, { on := 7, ground := Ground.data }], guard := none }) rfl (fun K hK => ?_) ?_
          · skip
            refine step_rule (w := w) (vf := .slice A1 l1.length c1) (B9 := B9) (X := #[.int .i64 x.f0, .slice A3 x.f1.length c3, .int .i64 x.f2, .int .i64 x.f3, .int .i64 x.f4]) (v0 := vr) (i0 := vi) (vr := vr) (vi := vi) (rs := rs) (ix := ix) rfl (.tmp 33) (.tmp 35) rfl ?j13 rfl _ x #[.int .i64 x.f0, .slice A3 x.f1.length c3, .int .i64 x.f2, .int .i64 x.f3, .int .i64 x.f4] rfl ?b13 HKK.out rfl hlr ?k13
            case j13 => exact HX.out.later (by repeat (first | exact Below.refl _ _ | apply below_alloc | apply below_drew1))
            case b13 => first | exact blk_drew (blk_newN (by simp)) | exact blk_drew (blk_alloc (blk_newN (by simp)) _)
            case k13 =>
            intro vr' w1 hJ1 hK1
            refine hK.out _ _ hJ1.held ?_
            clear hK K
            try simp only [Act.put, List.setIfInBounds_toArray, List.set_cons_zero, List.set_cons_succ]
            refine wpAnyT_ready (rs := [14]) (by kernel_rfl) (by simp) ?_
            refine AllReadyT.cons (o := { dst := some 42, op := Op.buildSlice 26 1 #[(0, Operand.tmp 41)], type := 26, pos := "l05_rules.go:89", after := #[{ on := 13, ground := Ground.data }], guard := none }) rfl (fun K hK => ?_) ?_
            · skip
              go_simp
              refine hK.out _ _ (hJ1.later (by repeat (first | exact Below.refl _ _ | apply below_alloc | apply below_drew1))).held ?_
              clear hK K
              try simp only [Act.put, List.setIfInBounds_toArray, List.set_cons_zero, List.set_cons_succ]
              refine wpAnyT_ready (rs := [15]) (by kernel_rfl) (by simp) ?_
              refine AllReadyT.cons (o := { dst := some 43, op := Op.call { callee := Callee.builtin Builtin.append, args := #[Operand.tmp 40, Operand.tmp 42], argTypes := #[26, 26] }, type := 26, pos := "l05_rules.go:89", after := #[{ on := 12, ground := Ground.data }, { on := 14, ground := Ground.data }, { on := 8, ground := Ground.chain }], guard := none }) rfl (fun K hK => ?_) ?_
              · skip
                refine step_index (w := w) (vf := .slice A1 l1.length c1) (B9 := B9) (X := #[.int .i64 x.f0, .slice A3 x.f1.length c3, .int .i64 x.f2, .int .i64 x.f3, .int .i64 x.f4]) (v0 := vr) (i0 := vi) (vr := vr') (vi := vi) (rs := rs ++ [x]) (ix := ix) rfl (.tmp 40) (.tmp 42) rfl ?j14 rfl _ (n : Int) rfl ?b14 hli ?k14
                case j14 => first | exact hJ1 | exact hJ1.later (by repeat (first | exact Below.refl _ _ | apply below_alloc | apply below_drew1))
                case b14 => first | exact blk_newN (by simp) | exact hK1 _ _ (blk_drew (blk_newN (by simp))) | exact hK1 _ _ (blk_drew (blk_alloc (blk_newN (by simp)) _))
                case k14 =>
                intro vi' w2 hJ2
                refine hK.out _ _ hJ2.held ?_
                clear hK K
                try simp only [Act.put, List.setIfInBounds_toArray, List.set_cons_zero, List.set_cons_succ]
                obtain ⟨Ar, cr, rfl, _, _⟩ := OwnRow.reads hJ2.row
                obtain ⟨Ai, ci, rfl, _, _⟩ := Kd.R_reads hJ2.ixr
                refine wpAnyT_take' (i := 16) (oi := { dst := some 44, op := Op.nilCheck (Operand.tmp 28), type := 0, pos := "l05_rules.go:89", after := #[{ on := 0, ground := Ground.data }, { on := 0, ground := Ground.phase }, { on := 1, ground := Ground.textOnly Departure.lateStores }, { on := 2, ground := Ground.phase }, { on := 3, ground := Ground.phase }, { on := 4, ground := Ground.phase }, { on := 5, ground := Ground.phase }, { on := 6, ground := Ground.phase }, { on := 7, ground := Ground.phase }, { on := 8, ground := Ground.phase }, { on := 9, ground := Ground.textOnly Departure.lateStores }, { on := 10, ground := Ground.textOnly Departure.lateStoresUnsure }, { on := 11, ground := Ground.textOnly Departure.lateStoresUnsure }, { on := 12, ground := Ground.phase }, { on := 13, ground := Ground.textOnly Departure.lateStores }, { on := 14, ground := Ground.textOnly Departure.lateStoresUnsure }, { on := 15, ground := Ground.phase }], guard := none }) (v := ?v15) rfl (by kernel_rfl) (by kernel_rfl) (by kernel_rfl) (by kernel_rfl) (fun _ _ _ h => h) (Or.inl ⟨by rfl, ?hy15⟩) (fun _ => hJ2.held) ?rest15
                case hy15 => (intro w9 _; go_simp; (try with_reducible rfl))
                case rest15 =>
                try simp only [Act.put, List.setIfInBounds_toArray, List.set_cons_zero, List.set_cons_succ]
                refine wpAnyT_take' (i := 17) (oi := { dst := some 45, op := Op.fieldAddr 58 (Operand.tmp 44) 0, type := 0, pos := "l05_rules.go:89", after := #[{ on := 16, ground := Ground.data }, { on := 0, ground := Ground.phase }, { on := 1, ground := Ground.textOnly Departure.lateStores }, { on := 2, ground := Ground.phase }, { on := 3, ground := Ground.phase }, { on := 4, ground := Ground.phase }, { on := 5, ground := Ground.phase }, { on := 6, ground := Ground.phase }, { on := 7, ground := Ground.phase }, { on := 8, ground := Ground.phase }, { on := 9, ground := Ground.textOnly Departure.lateStores }, { on := 10, ground := Ground.textOnly Departure.lateStoresUnsure }, { on := 11, ground := Ground.textOnly Departure.lateStoresUnsure }, { on := 12, ground := Ground.phase }, { on := 13, ground := Ground.textOnly Departure.lateStores }, { on := 14, ground := Ground.textOnly Departure.lateStoresUnsure }, { on := 15, ground := Ground.phase }], guard := none }) (v := ?v16) rfl (by kernel_rfl) (by kernel_rfl) (by kernel_rfl) (by kernel_rfl) (fun _ _ _ h => h) (Or.inl ⟨by rfl, ?hy16⟩) (fun _ => hJ2.held) ?rest16
                case hy16 => (intro w9 _; go_simp; (try with_reducible rfl))
                case rest16 =>
                try simp only [Act.put, List.setIfInBounds_toArray, List.set_cons_zero, List.set_cons_succ]
                have f0 : w2.frozen? ⟨w.heap.size + 1 + 1, 0, none⟩ = false := blk_frozen hJ2.blk _
                have f1 : w2.frozen? ⟨w.heap.size + 1 + 1, 1, none⟩ = false := blk_frozen hJ2.blk _
                have f2 : (w2.setCell ⟨w.heap.size + 1 + 1, 0, none⟩ (.slice Ar (rs ++ [x]).length cr)).frozen? ⟨w.heap.size + 1 + 1, 1, none⟩ = false := blk_frozen (blk_set hJ2.blk 0 (.slice Ar (rs ++ [x]).length cr)) _
                have g0 : w2.cell? ⟨w.heap.size + 1 + 1, 0, none⟩ = some vr := blk_cell hJ2.blk 0
                have g1 : w2.cell? ⟨w.heap.size + 1 + 1, 1, none⟩ = some vi := blk_cell hJ2.blk 1
                have g2 : (w2.setCell ⟨w.heap.size + 1 + 1, 0, none⟩ (.slice Ar (rs ++ [x]).length cr)).cell? ⟨w.heap.size + 1 + 1, 1, none⟩ = some vi := blk_cell (blk_set hJ2.blk 0 (.slice Ar (rs ++ [x]).length cr)) 1
                refine wpAnyT_ready (rs := [18]) (by kernel_rfl) (by simp) ?_
                refine AllReadyT.cons' (o := { dst := none, op := Op.store 24 (Operand.tmp 45) (Operand.tmp 36), type := 0, pos := "l05_rules.go:89", after := #[{ on := 17, ground := Ground.data }, { on := 8, ground := Ground.data }, { on := 15, ground := Ground.chain }, { on := 0, ground := Ground.phase }, { on := 1, ground := Ground.textOnly Departure.lateStores }, { on := 2, ground := Ground.phase }, { on := 3, ground := Ground.phase }, { on := 4, ground := Ground.phase }, { on := 5, ground := Ground.phase }, { on := 6, ground := Ground.phase }, { on := 7, ground := Ground.phase }, { on := 8, ground := Ground.phase }, { on := 9, ground := Ground.textOnly Departure.lateStores }, { on := 10, ground := Ground.textOnly Departure.lateStoresUnsure }, { on := 11, ground := Ground.textOnly Departure.lateStoresUnsure }, { on := 12, ground := Ground.phase }, { on := 13, ground := Ground.textOnly Departure.lateStores }, { on := 14, ground := Ground.textOnly Departure.lateStoresUnsure }, { on := 15, ground := Ground.phase }], guard := none }) rfl (by kernel_rfl) (fun K hK => ?_) ?_
                rotate_left
                · exact AllReadyT.nil
                go_simp
                refine hK.out _ _ ?_
                clear hK K
                try simp only [Act.put, List.setIfInBounds_toArray, List.set_cons_zero, List.set_cons_succ]
                refine wpAnyT_ready (rs := [19]) (by kernel_rfl) (by simp) ?_
                refine AllReadyT.cons' (o := { dst := some 46, op := Op.nilCheck (Operand.tmp 29), type := 0, pos := "l05_rules.go:89", after := #[{ on := 1, ground := Ground.data }, { on := 0, ground := Ground.phase }, { on := 1, ground := Ground.phase }, { on := 2, ground := Ground.phase }, { on := 3, ground := Ground.phase }, { on := 4, ground := Ground.phase }, { on := 5, ground := Ground.phase }, { on := 6, ground := Ground.phase }, { on := 7, ground := Ground.phase }, { on := 8, ground := Ground.phase }, { on := 9, ground := Ground.phase }, { on := 10, ground := Ground.phase }, { on := 11, ground := Ground.phase }, { on := 12, ground := Ground.phase }, { on := 13, ground := Ground.phase }, { on := 14, ground := Ground.phase }, { on := 15, ground := Ground.phase }, { on := 16, ground := Ground.phase }, { on := 17, ground := Ground.phase }, { on := 18, ground := Ground.phase }], guard := none }) rfl (by kernel_rfl) (fun K hK => ?_) ?_
                rotate_left
                · exact AllReadyT.nil
                go_simp
                refine hK.out _ _ ?_
                clear hK K
                try simp only [Act.put, List.setIfInBounds_toArray, List.set_cons_zero, List.set_cons_succ]
                refine wpAnyT_ready (rs := [20]) (by kernel_rfl) (by simp) ?_
                refine AllReadyT.cons' (o := { dst := some 47, op := Op.fieldAddr 58 (Operand.tmp 46) 1, type := 0, pos := "l05_rules.go:89", after := #[{ on := 19, ground := Ground.data }, { on := 0, ground := Ground.phase }, { on := 1, ground := Ground.phase }, { on := 2, ground := Ground.phase }, { on := 3, ground := Ground.phase }, { on := 4, ground := Ground.phase }, { on := 5, ground := Ground.phase }, { on := 6, ground := Ground.phase }, { on := 7, ground := Ground.phase }, { on := 8, ground := Ground.phase }, { on := 9, ground := Ground.phase }, { on := 10, ground := Ground.phase }, { on := 11, ground := Ground.phase }, { on := 12, ground := Ground.phase }, { on := 13, ground := Ground.phase }, { on := 14, ground := Ground.phase }, { on := 15, ground := Ground.phase }, { on := 16, ground := Ground.phase }, { on := 17, ground := Ground.phase }, { on := 18, ground := Ground.phase }], guard := none }) rfl (by kernel_rfl) (fun K hK => ?_) ?_
                rotate_left
                · exact AllReadyT.nil
                go_simp
                refine hK.out _ _ ?_
                clear hK K
                try simp only [Act.put, List.setIfInBounds_toArray, List.set_cons_zero, List.set_cons_succ]
                refine wpAnyT_ready (rs := [21]) (by kernel_rfl) (by simp) ?_
                refine AllReadyT.cons' (o := { dst := none, op := Op.store 26 (Operand.tmp 47) (Operand.tmp 43), type := 0, pos := "l05_rules.go:89", after := #[{ on := 20, ground := Ground.data }, { on := 15, ground := Ground.data }, { on := 18, ground := Ground.chain }, { on := 0, ground := Ground.phase }, { on := 1, ground := Ground.phase }, { on := 2, ground := Ground.phase }, { on := 3, ground := Ground.phase }, { on := 4, ground := Ground.phase }, { on := 5, ground := Ground.phase }, { on := 6, ground := Ground.phase }, { on := 7, ground := Ground.phase }, { on := 8, ground := Ground.phase }, { on := 9, ground := Ground.phase }, { on := 10, ground := Ground.phase }, { on := 11, ground := Ground.phase }, { on := 12, ground := Ground.phase }, { on := 13, ground := Ground.phase }, { on := 14, ground := Ground.phase }, { on := 15, ground := Ground.phase }, { on := 16, ground := Ground.phase }, { on := 17, ground := Ground.phase }, { on := 18, ground := Ground.phase }], guard := none }) rfl (by kernel_rfl) (fun K hK => ?_) ?_
                rotate_left
                · exact AllReadyT.nil
                go_simp
                refine hK.out _ _ ?_
                clear hK K
                try simp only [Act.put, List.setIfInBounds_toArray, List.set_cons_zero, List.set_cons_succ]
                refine wpAnyT_done (by kernel_rfl) ?_ _
                have hJ3 := hJ2.stored.toW
                simp only [List.length_append, List.length_cons, List.length_nil, Nat.zero_add] at hJ3
                have HJ3 := Aside0.mk hJ3
                clear hJ3
                clear hJ1 hJ2 hK1 f0 f1 f2 g0 g1 g2
                go_wp2
                go_roundg (l0.length - (n + 1))
                case measure => omega
                case rel => exact ⟨n + 1, _, _, rs ++ [x], ix ++ [(n : Int)], by omega, by omega, by go_num, HJ3, ⟨by have := HI.out.1; simp; omega, by have := HI.out.2.1; simp; omega, HE.out⟩⟩
              exact AllReadyT.nil
            exact AllReadyT.nil
          refine AllReadyT.cons (o := { dst := some 42, op := Op.buildSlice 26 1 #[(0, Operand.tmp 41)], type := 26, pos := "l05_rules.go:89", after := #[{ on := 13, ground := Ground.data }], guard := none }) rfl (fun K hK => ?_) ?_
          · skip
            go_simp
            refine hK.out _ _ (HX.out.later (by repeat (first | exact Below.refl _ _ | apply below_alloc | apply below_drew1))).held ?_
            clear hK K
            try simp only [Act.put, List.setIfInBounds_toArray, List.set_cons_zero, List.set_cons_succ]
            refine wpAnyT_ready (rs := [8]) (by kernel_rfl) (by simp) ?_
            refine AllReadyT.cons (o := { dst := some 36, op := Op.call { callee := Callee.builtin Builtin.append, args := #[Operand.tmp 33, Operand.tmp 35], argTypes := #[24, 24] }, type := 24, pos := "l05_rules.go:89", after := #[{ on := 5, ground := Ground.data }, { on := 7, ground := Ground.data }], guard := none }) rfl (fun K hK => ?_) ?_
            · skip
              refine step_rule (w := w) (vf := .slice A1 l1.length c1) (B9 := B9) (X := #[.int .i64 x.f0, .slice A3 x.f1.length c3, .int .i64 x.f2, .int .i64 x.f3, .int .i64 x.f4]) (v0 := vr) (i0 := vi) (vr := vr) (vi := vi) (rs := rs) (ix := ix) rfl (.tmp 33) (.tmp 35) rfl ?j17 rfl _ x #[.int .i64 x.f0, .slice A3 x.f1.length c3, .int .i64 x.f2, .int .i64 x.f3, .int .i64 x.f4] rfl ?b17 HKK.out rfl hlr ?k17
              case j17 => exact HX.out.later (by repeat (first | exact Below.refl _ _ | apply below_alloc | apply below_drew1))
              case b17 => first | exact blk_drew (blk_newN (by simp)) | exact blk_drew (blk_alloc (blk_newN (by simp)) _)
              case k17 =>
              intro vr' w1 hJ1 hK1
              refine hK.out _ _ hJ1.held ?_
              clear hK K
              try simp only [Act.put, List.setIfInBounds_toArray, List.set_cons_zero, List.set_cons_succ]
              refine wpAnyT_ready (rs := [15]) (by kernel_rfl) (by simp) ?_
              refine AllReadyT.cons (o := { dst := some 43, op := Op.call { callee := Callee.builtin Builtin.append, args := #[Operand.tmp 40, Operand.tmp 42], argTypes := #[26, 26] }, type := 26, pos := "l05_rules.go:89", after := #[{ on := 12, ground := Ground.data }, { on := 14, ground := Ground.data }, { on := 8, ground := Ground.chain }], guard := none }) rfl (fun K hK => ?_) ?_
              · skip
                refine step_index (w := w) (vf := .slice A1 l1.length c1) (B9 := B9) (X := #[.int .i64 x.f0, .slice A3 x.f1.length c3, .int .i64 x.f2, .int .i64 x.f3, .int .i64 x.f4]) (v0 := vr) (i0 := vi) (vr := vr') (vi := vi) (rs := rs ++ [x]) (ix := ix) rfl (.tmp 40) (.tmp 42) rfl ?j18 rfl _ (n : Int) rfl ?b18 hli ?k18
                case j18 => first | exact hJ1 | exact hJ1.later (by repeat (first | exact Below.refl _ _ | apply below_alloc | apply below_drew1))
                case b18 => first | exact blk_newN (by simp) | exact hK1 _ _ (blk_drew (blk_newN (by simp))) | exact hK1 _ _ (blk_drew (blk_alloc (blk_newN (by simp)) _))
                case k18 =>
                intro vi' w2 hJ2
                refine hK.out _ _ hJ2.held ?_
                clear hK K
                try simp only [Act.put, List.setIfInBounds_toArray, List.set_cons_zero, List.set_cons_succ]
                obtain ⟨Ar, cr, rfl, _, _⟩ := OwnRow.reads hJ2.row
                obtain ⟨Ai, ci, rfl, _, _⟩ := Kd.R_reads hJ2.ixr
                refine wpAnyT_take' (i := 16) (oi := { dst := some 44, op := Op.nilCheck (Operand.tmp 28), type := 0, pos := "l05_rules.go:89", after := #[{ on := 0, ground := Ground.data }, { on := 0, ground := Ground.phase }, { on := 1, ground := Ground.textOnly Departure.lateStores }, { on := 2, ground := Ground.phase }, { on := 3, ground := Ground.phase }, { on := 4, ground := Ground.phase }, { on := 5, ground := Ground.phase }, { on := 6, ground := Ground.phase }, { on := 7, ground := Ground.phase }, { on := 8, ground := Ground.phase }, { on := 9, ground := Ground.textOnly Departure.lateStores }, { on := 10, ground := Ground.textOnly Departure.lateStoresUnsure }, { on := 11, ground := Ground.textOnly Departure.lateStoresUnsure }, { on := 12, ground := Ground.phase }, { on := 13, ground := Ground.textOnly Departure.lateStores }, { on := 14, ground := Ground.textOnly Departure.lateStoresUnsure }, { on := 15, ground := Ground.phase }], guard := none }) (v := ?v19) rfl (by kernel_rfl) (by kernel_rfl) (by kernel_rfl) (by kernel_rfl) (fun _ _ _ h => h) (Or.inl ⟨by rfl, ?hy19⟩) (fun _ => hJ2.held) ?rest19
                case hy19 => (intro w9 _; go_simp; (try with_reducible rfl))
                case rest19 =>
                try simp only [Act.put, List.setIfInBounds_toArray, List.set_cons_zero, List.set_cons_succ]
                refine wpAnyT_take' (i := 17) (oi := { dst := some 45, op := Op.fieldAddr 58 (Operand.tmp 44) 0, type := 0, pos := "l05_rules.go:89", after := #[{ on := 16, ground := Ground.data }, { on := 0, ground := Ground.phase }, { on := 1, ground := Ground.textOnly Departure.lateStores }, { on := 2, ground := Ground.phase }, { on := 3, ground := Ground.phase }, { on := 4, ground := Ground.phase }, { on := 5, ground := Ground.phase }, { on := 6, ground := Ground.phase }, { on := 7, ground := Ground.phase }, { on := 8, ground := Ground.phase }, { on := 9, ground := Ground.textOnly Departure.lateStores }, { on := 10, ground := Ground.textOnly Departure.lateStoresUnsure }, { on := 11, ground := Ground.textOnly Departure.lateStoresUnsure }, { on := 12, ground := Ground.phase }, { on := 13, ground := Ground.textOnly Departure.lateStores }, { on := 14, ground := Ground.textOnly Departure.lateStoresUnsure }, { on := 15, ground := Ground.phase }], guard := none }) (v := ?v20) rfl (by kernel_rfl) (by kernel_rfl) (by kernel_rfl) (by kernel_rfl) (fun _ _ _ h => h) (Or.inl ⟨by rfl, ?hy20⟩) (fun _ => hJ2.held) ?rest20
                case hy20 => (intro w9 _; go_simp; (try with_reducible rfl))
                case rest20 =>
                try simp only [Act.put, List.setIfInBounds_toArray, List.set_cons_zero, List.set_cons_succ]
                have f0 : w2.frozen? ⟨w.heap.size + 1 + 1, 0, none⟩ = false := blk_frozen hJ2.blk _
                have f1 : w2.frozen? ⟨w.heap.size + 1 + 1, 1, none⟩ = false := blk_frozen hJ2.blk _
                have f2 : (w2.setCell ⟨w.heap.size + 1 + 1, 0, none⟩ (.slice Ar (rs ++ [x]).length cr)).frozen? ⟨w.heap.size + 1 + 1, 1, none⟩ = false := blk_frozen (blk_set hJ2.blk 0 (.slice Ar (rs ++ [x]).length cr)) _
                have g0 : w2.cell? ⟨w.heap.size + 1 + 1, 0, none⟩ = some vr := blk_cell hJ2.blk 0
                have g1 : w2.cell? ⟨w.heap.size + 1 + 1, 1, none⟩ = some vi := blk_cell hJ2.blk 1
                have g2 : (w2.setCell ⟨w.heap.size + 1 + 1, 0, none⟩ (.slice Ar (rs ++ [x]).length cr)).cell? ⟨w.heap.size + 1 + 1, 1, none⟩ = some vi := blk_cell (blk_set hJ2.blk 0 (.slice Ar (rs ++ [x]).length cr)) 1
                refine wpAnyT_ready (rs := [18]) (by kernel_rfl) (by simp) ?_
                refine AllReadyT.cons' (o := { dst := none, op := Op.store 24 (Operand.tmp 45) (Operand.tmp 36), type := 0, pos := "l05_rules.go:89", after := #[{ on := 17, ground := Ground.data }, { on := 8, ground := Ground.data }, { on := 15, ground := Ground.chain }, { on := 0, ground := Ground.phase }, { on := 1, ground := Ground.textOnly Departure.lateStores }, { on := 2, ground := Ground.phase }, { on := 3, ground := Ground.phase }, { on := 4, ground := Ground.phase }, { on := 5, ground := Ground.phase }, { on := 6, ground := Ground.phase }, { on := 7, ground := Ground.phase }, { on := 8, ground := Ground.phase }, { on := 9, ground := Ground.textOnly Departure.lateStores }, { on := 10, ground := Ground.textOnly Departure.lateStoresUnsure }, { on := 11, ground := Ground.textOnly Departure.lateStoresUnsure }, { on := 12, ground := Ground.phase }, { on := 13, ground := Ground.textOnly Departure.lateStores }, { on := 14, ground := Ground.textOnly Departure.lateStoresUnsure }, { on := 15, ground := Ground.phase }], guard := none }) rfl (by kernel_rfl) (fun K hK => ?_) ?_
                rotate_left
                · exact AllReadyT.nil
                go_simp
                refine hK.out _ _ ?_
                clear hK K
                try simp only [Act.put, List.setIfInBounds_toArray, List.set_cons_zero, List.set_cons_succ]
                refine wpAnyT_ready (rs := [19]) (by kernel_rfl) (by simp) ?_
                refine AllReadyT.cons' (o := { dst := some 46, op := Op.nilCheck (Operand.tmp 29), type := 0, pos := "l05_rules.go:89", after := #[{ on := 1, ground := Ground.data }, { on := 0, ground := Ground.phase }, { on := 1, ground := Ground.phase }, { on := 2, ground := Ground.phase }, { on := 3, ground := Ground.phase }, { on := 4, ground := Ground.phase }, { on := 5, ground := Ground.phase }, { on := 6, ground := Ground.phase }, { on := 7, ground := Ground.phase }, { on := 8, ground := Ground.phase }, { on := 9, ground := Ground.phase }, { on := 10, ground := Ground.phase }, { on := 11, ground := Ground.phase }, { on := 12, ground := Ground.phase }, { on := 13, ground := Ground.phase }, { on := 14, ground := Ground.phase }, { on := 15, ground := Ground.phase }, { on := 16, ground := Ground.phase }, { on := 17, ground := Ground.phase }, { on := 18, ground := Ground.phase }], guard := none }) rfl (by kernel_rfl) (fun K hK => ?_) ?_
                rotate_left
                · exact AllReadyT.nil
                go_simp
                refine hK.out _ _ ?_
                clear hK K
                try simp only [Act.put, List.setIfInBounds_toArray, List.set_cons_zero, List.set_cons_succ]
                refine wpAnyT_ready (rs := [20]) (by kernel_rfl) (by simp) ?_
                refine AllReadyT.cons' (o := { dst := some 47, op := Op.fieldAddr 58 (Operand.tmp 46) 1, type := 0, pos := "l05_rules.go:89", after := #[{ on := 19, ground := Ground.data }, { on := 0, ground := Ground.phase }, { on := 1, ground := Ground.phase }, { on := 2, ground := Ground.phase }, { on := 3, ground := Ground.phase }, { on := 4, ground := Ground.phase }, { on := 5, ground := Ground.phase }, { on := 6, ground := Ground.phase }, { on := 7, ground := Ground.phase }, { on := 8, ground := Ground.phase }, { on := 9, ground := Ground.phase }, { on := 10, ground := Ground.phase }, { on := 11, ground := Ground.phase }, { on := 12, ground := Ground.phase }, { on := 13, ground := Ground.phase }, { on := 14, ground := Ground.phase }, { on := 15, ground := Ground.phase }, { on := 16, ground := Ground.phase }, { on := 17, ground := Ground.phase }, { on := 18, ground := Ground.phase }], guard := none }) rfl (by kernel_rfl) (fun K hK => ?_) ?_
                rotate_left
                · exact AllReadyT.nil
                go_simp
                refine hK.out _ _ ?_
                clear hK K
                try simp only [Act.put, List.setIfInBounds_toArray, List.set_cons_zero, List.set_cons_succ]
                refine wpAnyT_ready (rs := [21]) (by kernel_rfl) (by simp) ?_
                refine AllReadyT.cons' (o := { dst := none, op := Op.store 26 (Operand.tmp 47) (Operand.tmp 43), type := 0, pos := "l05_rules.go:89", after := #[{ on := 20, ground := Ground.data }, { on := 15, ground := Ground.data }, { on := 18, ground := Ground.chain }, { on := 0, ground := Ground.phase }, { on := 1, ground := Ground.phase }, { on := 2, ground := Ground.phase }, { on := 3, ground := Ground.phase }, { on := 4, ground := Ground.phase }, { on := 5, ground := Ground.phase }, { on := 6, ground := Ground.phase }, { on := 7, ground := Ground.phase }, { on := 8, ground := Ground.phase }, { on := 9, ground := Ground.phase }, { on := 10, ground := Ground.phase }, { on := 11, ground := Ground.phase }, { on := 12, ground := Ground.phase }, { on := 13, ground := Ground.phase }, { on := 14, ground := Ground.phase }, { on := 15, ground := Ground.phase }, { on := 16, ground := Ground.phase }, { on := 17, ground := Ground.phase }, { on := 18, ground := Ground.phase }], guard := none }) rfl (by kernel_rfl) (fun K hK => ?_) ?_
                rotate_left
                · exact AllReadyT.nil
                go_simp
                refine hK.out _ _ ?_
                clear hK K
                try simp only [Act.put, List.setIfInBounds_toArray, List.set_cons_zero, List.set_cons_succ]
                refine wpAnyT_done (by kernel_rfl) ?_ _
                have hJ3 := hJ2.stored.toW
                simp only [List.length_append, List.length_cons, List.length_nil, Nat.zero_add] at hJ3
                have HJ3 := Aside0.mk hJ3
                clear hJ3
                clear hJ1 hJ2 hK1 f0 f1 f2 g0 g1 g2
                go_wp2
                go_roundg (l0.length - (n + 1))
                case measure => omega
                case rel => exact ⟨n + 1, _, _, rs ++ [x], ix ++ [(n : Int)], by omega, by omega, by go_num, HJ3, ⟨by have := HI.out.1; simp; omega, by have := HI.out.2.1; simp; omega, HE.out⟩⟩
              exact AllReadyT.nil
            exact AllReadyT.nil
          exact AllReadyT.nil
        refine AllReadyT.cons (o := { dst := some 42, op := Op.buildSlice 26 1 #[(0, Operand.tmp 41)], type := 26, pos := "l05_rules.go:89", after := #[{ on := 13, ground := Ground.data }], guard := none }) rfl (fun K hK => ?_) ?_
        · skip
          go_simp
          refine hK.out _ _ (HX.out.later (by repeat (first | exact Below.refl _ _ | apply below_alloc | apply below_drew1))).held ?_
          clear hK K
          try simp only [Act.put, List.setIfInBounds_toArray, List.set_cons_zero, List.set_cons_succ]
          refine wpAnyT_ready (rs := [7]) (by kernel_rfl) (by simp) ?_
          refine AllReadyT.cons (o := { dst := some 35, op := Op.buildSlice 24 1 #[(0, Operand.tmp 34)], type := 24, pos := "l05_rules.go:89", after := #[{ on := 6, ground := Ground.data }], guard := none }) rfl (fun K hK => ?_) ?_
          · skip
            go_simp
            refine hK.out _ _ (HX.out.later (by repeat (first | exact Below.refl _ _ | apply below_alloc | apply below_drew1))).held ?_
            clear hK K
            try simp only [Act.put, List.setIfInBounds_toArray, List.set_cons_zero, List.set_cons_succ]
            refine wpAnyT_ready (rs := [8]) (by kernel_rfl) (by simp) ?_
            refine AllReadyT.cons (o := { dst := some 36, op := Op.call { callee := Callee.builtin Builtin.append, args := #[Operand.tmp 33, Operand.tmp 35], argTypes := #[24, 24] }, type := 24, pos := "l05_rules.go:89", after := #[{ on := 5, ground := Ground.data }, { on := 7, ground := Ground.data }], guard := none }) rfl (fun K hK => ?_) ?_
            · skip
              refine step_rule (w := w) (vf := .slice A1 l1.length c1) (B9 := B9) (X := #[.int .i64 x.f0, .slice A3 x.f1.length c3, .int .i64 x.f2, .int .i64 x.f3, .int .i64 x.f4]) (v0 := vr) (i0 := vi) (vr := vr) (vi := vi) (rs := rs) (ix := ix) rfl (.tmp 33) (.tmp 35) rfl ?j21 rfl _ x #[.int .i64 x.f0, .slice A3 x.f1.length c3, .int .i64 x.f2, .int .i64 x.f3, .int .i64 x.f4] rfl ?b21 HKK.out rfl hlr ?k21
              case j21 => exact HX.out.later (by repeat (first | exact Below.refl _ _ | apply below_alloc | apply below_drew1))
              case b21 => first | exact blk_drew (blk_newN (by simp)) | exact blk_drew (blk_alloc (blk_newN (by simp)) _)
              case k21 =>
              intro vr' w1 hJ1 hK1
              refine hK.out _ _ hJ1.held ?_
              clear hK K
              try simp only [Act.put, List.setIfInBounds_toArray, List.set_cons_zero, List.set_cons_succ]
              refine wpAnyT_ready (rs := [15]) (by kernel_rfl) (by simp) ?_
              refine AllReadyT.cons (o := { dst := some 43, op := Op.call { callee := Callee.builtin Builtin.append, args := #[Operand.tmp 40, Operand.tmp 42], argTypes := #[26, 26] }, type := 26, pos := "l05_rules.go:89", after := #[{ on := 12, ground := Ground.data }, { on := 14, ground := Ground.data }, { on := 8, ground := Ground.chain }], guard := none }) rfl (fun K hK => ?_) ?_
              · skip
                refine step_index (w := w) (vf := .slice A1 l1.length c1) (B9 := B9) (X := #[.int .i64 x.f0, .slice A3 x.f1.length c3, .int .i64 x.f2, .int .i64 x.f3, .int .i64 x.f4]) (v0 := vr) (i0 := vi) (vr := vr') (vi := vi) (rs := rs ++ [x]) (ix := ix) rfl (.tmp 40) (.tmp 42) rfl ?j22 rfl _ (n : Int) rfl ?b22 hli ?k22
                case j22 => first | exact hJ1 | exact hJ1.later (by repeat (first | exact Below.refl _ _ | apply below_alloc | apply below_drew1))
                case b22 => first | exact blk_newN (by simp) | exact hK1 _ _ (blk_drew (blk_newN (by simp))) | exact hK1 _ _ (blk_drew (blk_alloc (blk_newN (by simp)) _))
                case k22 =>
                intro vi' w2 hJ2
                refine hK.out _ _ hJ2.held ?_
                clear hK K
                try simp only [Act.put, List.setIfInBounds_toArray, List.set_cons_zero, List.set_cons_succ]
                obtain ⟨Ar, cr, rfl, _, _⟩ := OwnRow.reads hJ2.row
                obtain ⟨Ai, ci, rfl, _, _⟩ := Kd.R_reads hJ2.ixr
                refine wpAnyT_take' (i := 16) (oi := { dst := some 44, op := Op.nilCheck (Operand.tmp 28), type := 0, pos := "l05_rules.go:89", after := #[{ on := 0, ground := Ground.data }, { on := 0, ground := Ground.phase }, { on := 1, ground := Ground.textOnly Departure.lateStores }, { on := 2, ground := Ground.phase }, { on := 3, ground := Ground.phase }, { on := 4, ground := Ground.phase }, { on := 5, ground := Ground.phase }, { on := 6, ground := Ground.phase }, { on := 7, ground := Ground.phase }, { on := 8, ground := Ground.phase }, { on := 9, ground := Ground.textOnly Departure.lateStores }, { on := 10, ground := Ground.textOnly Departure.lateStoresUnsure }, { on := 11, ground := Ground.textOnly Departure.lateStoresUnsure }, { on := 12, ground := Ground.phase }, { on := 13, ground := Ground.textOnly Departure.lateStores }, { on := 14, ground := Ground.textOnly Departure.lateStoresUnsure }, { on := 15, ground := Ground.phase }], guard := none }) (v := ?v23) rfl (by kernel_rfl) (by kernel_rfl) (by kernel_rfl) (by kernel_rfl) (fun _ _ _ h => h) (Or.inl ⟨by rfl, ?hy23⟩) (fun _ => hJ2.held) ?rest23
                case hy23 => (intro w9 _; go_simp; (try with_reducible rfl))
                case rest23 =>
                try simp only [Act.put, List.setIfInBounds_toArray, List.set_cons_zero, List.set_cons_succ]
                refine wpAnyT_take' (i := 17) (oi := { dst := some 45, op := Op.fieldAddr 58 (Operand.tmp 44) 0, type := 0, pos := "l05_rules.go:89", after := #[{ on := 16, ground := Ground.data }, { on := 0, ground := Ground.phase }, { on := 1, ground := Ground.textOnly Departure.lateStores }, { on := 2, ground := Ground.phase }, { on := 3, ground := Ground.phase }, { on := 4, ground := Ground.phase }, { on := 5, ground := Ground.phase }, { on := 6, ground := Ground.phase }, { on := 7, ground := Ground.phase }, { on := 8, ground := Ground.phase }, { on := 9, ground := Ground.textOnly Departure.lateStores }, { on := 10, ground := Ground.textOnly Departure.lateStoresUnsure }, { on := 11, ground := Ground.textOnly Departure.lateStoresUnsure }, { on := 12, ground := Ground.phase }, { on := 13, ground := Ground.textOnly Departure.lateStores }, { on := 14, ground := Ground.textOnly Departure.lateStoresUnsure }, { on := 15, ground := Ground.phase }], guard := none }) (v := ?v24) rfl (by kernel_rfl) (by kernel_rfl) (by kernel_rfl) (by kernel_rfl) (fun _ _ _ h => h) (Or.inl ⟨by rfl, ?hy24⟩) (fun _ => hJ2.held) ?rest24
                case hy24 => (intro w9 _; go_simp; (try with_reducible rfl))
                case rest24 =>
                try simp only [Act.put, List.setIfInBounds_toArray, List.set_cons_zero, List.set_cons_succ]
                have f0 : w2.frozen? ⟨w.heap.size + 1 + 1, 0, none⟩ = false := blk_frozen hJ2.blk _
                have f1 : w2.frozen? ⟨w.heap.size + 1 + 1, 1, none⟩ = false := blk_frozen hJ2.blk _
                have f2 : (w2.setCell ⟨w.heap.size + 1 + 1, 0, none⟩ (.slice Ar (rs ++ [x]).length cr)).frozen? ⟨w.heap.size + 1 + 1, 1, none⟩ = false := blk_frozen (blk_set hJ2.blk 0 (.slice Ar (rs ++ [x]).length cr)) _
                have g0 : w2.cell? ⟨w.heap.size + 1 + 1, 0, none⟩ = some vr := blk_cell hJ2.blk 0
                have g1 : w2.cell? ⟨w.heap.size + 1 + 1, 1, none⟩ = some vi := blk_cell hJ2.blk 1
                have g2 : (w2.setCell ⟨w.heap.size + 1 + 1, 0, none⟩ (.slice Ar (rs ++ [x]).length cr)).cell? ⟨w.heap.size + 1 + 1, 1, none⟩ = some vi := blk_cell (blk_set hJ2.blk 0 (.slice Ar (rs ++ [x]).length cr)) 1
                refine wpAnyT_ready (rs := [18]) (by kernel_rfl) (by simp) ?_
                refine AllReadyT.cons' (o := { dst := none, op := Op.store 24 (Operand.tmp 45) (Operand.tmp 36), type := 0, pos := "l05_rules.go:89", after := #[{ on := 17, ground := Ground.data }, { on := 8, ground := Ground.data }, { on := 15, ground := Ground.chain }, { on := 0, ground := Ground.phase }, { on := 1, ground := Ground.textOnly Departure.lateStores }, { on := 2, ground := Ground.phase }, { on := 3, ground := Ground.phase }, { on := 4, ground := Ground.phase }, { on := 5, ground := Ground.phase }, { on := 6, ground := Ground.phase }, { on := 7, ground := Ground.phase }, { on := 8, ground := Ground.phase }, { on := 9, ground := Ground.textOnly Departure.lateStores }, { on := 10, ground := Ground.textOnly Departure.lateStoresUnsure }, { on := 11, ground := Ground.textOnly Departure.lateStoresUnsure }, { on := 12, ground := Ground.phase }, { on := 13, ground := Ground.textOnly Departure.lateStores }, { on := 14, ground := Ground.textOnly Departure.lateStoresUnsure }, { on := 15, ground := Ground.phase }], guard := none }) rfl (by kernel_rfl) (fun K hK => ?_) ?_
                rotate_left
                · exact AllReadyT.nil
                go_simp
                refine hK.out _ _ ?_
                clear hK K
                try simp only [Act.put, List.setIfInBounds_toArray, List.set_cons_zero, List.set_cons_succ]
                refine wpAnyT_ready (rs := [19]) (by kernel_rfl) (by simp) ?_
                refine AllReadyT.cons' (o := { dst := some 46, op := Op.nilCheck (Operand.tmp 29), type := 0, pos := "l05_rules.go:89", after := #[{ on := 1, ground := Ground.data }, { on := 0, ground := Ground.phase }, { on := 1, ground := Ground.phase }, { on := 2, ground := Ground.phase }, { on := 3, ground := Ground.phase }, { on := 4, ground := Ground.phase }, { on := 5, ground := Ground.phase }, { on := 6, ground := Ground.phase }, { on := 7, ground := Ground.phase }, { on := 8, ground := Ground.phase }, { on := 9, ground := Ground.phase }, { on := 10, ground := Ground.phase }, { on := 11, ground := Ground.phase }, { on := 12, ground := Ground.phase }, { on := 13, ground := Ground.phase }, { on := 14, ground := Ground.phase }, { on := 15, ground := Ground.phase }, { on := 16, ground := Ground.phase }, { on := 17, ground := Ground.phase }, { on := 18, ground := Ground.phase }], guard := none }) rfl (by kernel_rfl) (fun K hK => ?_) ?_
                rotate_left
                · exact AllReadyT.nil
                go_simp
                refine hK.out _ _ ?_
                clear hK K
                try simp only [Act.put, List.setIfInBounds_toArray, List.set_cons_zero, List.set_cons_succ]
                refine wpAnyT_ready (rs := [20]) (by kernel_rfl) (by simp) ?_
                refine AllReadyT.cons' (o := { dst := some 47, op := Op.fieldAddr 58 (Operand.tmp 46) 1, type := 0, pos := "l05_rules.go:89", after := #[{ on := 19, ground := Ground.data }, { on := 0, ground := Ground.phase }, { on := 1, ground := Ground.phase }, { on := 2, ground := Ground.phase }, { on := 3, ground := Ground.phase }, { on := 4, ground := Ground.phase }, { on := 5, ground := Ground.phase }, { on := 6, ground := Ground.phase }, { on := 7, ground := Ground.phase }, { on := 8, ground := Ground.phase }, { on := 9, ground := Ground.phase }, { on := 10, ground := Ground.phase }, { on := 11, ground := Ground.phase }, { on := 12, ground := Ground.phase }, { on := 13, ground := Ground.phase }, { on := 14, ground := Ground.phase }, { on := 15, ground := Ground.phase }, { on := 16, ground := Ground.phase }, { on := 17, ground := Ground.phase }, { on := 18, ground := Ground.phase }], guard := none }) rfl (by kernel_rfl) (fun K hK => ?_) ?_
                rotate_left
                · exact AllReadyT.nil
                go_simp
                refine hK.out _ _ ?_
                clear hK K
                try simp only [Act.put, List.setIfInBounds_toArray, List.set_cons_zero, List.set_cons_succ]
                refine wpAnyT_ready (rs := [21]) (by kernel_rfl) (by simp) ?_
                refine AllReadyT.cons' (o := { dst := none, op := Op.store 26 (Operand.tmp 47) (Operand.tmp 43), type := 0, pos := "l05_rules.go:89", after := #[{ on := 20, ground := Ground.data }, { on := 15, ground := Ground.data }, { on := 18, ground := Ground.chain }, { on := 0, ground := Ground.phase }, { on := 1, ground := Ground.phase }, { on := 2, ground := Ground.phase }, { on := 3, ground := Ground.phase }, { on := 4, ground := Ground.phase }, { on := 5, ground := Ground.phase }, { on := 6, ground := Ground.phase }, { on := 7, ground := Ground.phase }, { on := 8, ground := Ground.phase }, { on := 9, ground := Ground.phase }, { on := 10, ground := Ground.phase }, { on := 11, ground := Ground.phase }, { on := 12, ground := Ground.phase }, { on := 13, ground := Ground.phase }, { on := 14, ground := Ground.phase }, { on := 15, ground := Ground.phase }, { on := 16, ground := Ground.phase }, { on := 17, ground := Ground.phase }, { on := 18, ground := Ground.phase }], guard := none }) rfl (by kernel_rfl) (fun K hK => ?_) ?_
                rotate_left
                · exact AllReadyT.nil
                go_simp
                refine hK.out _ _ ?_
                clear hK K
                try simp only [Act.put, List.setIfInBounds_toArray, List.set_cons_zero, List.set_cons_succ]
                refine wpAnyT_done (by kernel_rfl) ?_ _
                have hJ3 := hJ2.stored.toW
                simp only [List.length_append, List.length_cons, List.length_nil, Nat.zero_add] at hJ3
                have HJ3 := Aside0.mk hJ3
                clear hJ3
                clear hJ1 hJ2 hK1 f0 f1 f2 g0 g1 g2
                go_wp2
                go_roundg (l0.length - (n + 1))
                case measure => omega
                case rel => exact ⟨n + 1, _, _, rs ++ [x], ix ++ [(n : Int)], by omega, by omega, by go_num, HJ3, ⟨by have := HI.out.1; simp; omega, by have := HI.out.2.1; simp; omega, HE.out⟩⟩
              exact AllReadyT.nil
            exact AllReadyT.nil
          exact AllReadyT.nil
        exact AllReadyT.nil
    · -- the second loop
      have hltz : ¬ (n : Int) < (l0.length : Int) := by omega
      obtain rfl : n = l0.length := by omega
      have HRs := Aside0.mk (show l0.filter (onB day) = rs by have := HI.out.2.2.1; rwa [List.drop_length, List.filter_nil, List.append_nil] at this)
      have HIx := Aside0.mk (show actIdx day l0 = ix by have := HI.out.2.2.2; rwa [List.drop_length, show actFrom day l0.length [] = [] from rfl, List.append_nil] at this)
      have HW2 := Aside0.mk (show RuleWords rs from fun r hr => HW.out r (by rw [← HRs.out] at hr; exact (List.mem_filter.1 hr).1))
      have HJ := Aside0.mk HJ.out.toC
      clear HI hg hn
      go_wp2
      go_loopg [10, 12] 65 (fun gg s10 _ wr => ∃ (b : Bool) (P D : Int → Bool) (n1 n2 : Nat), s10 = .bool b ∧ (b = true → muW P + muW D + 1 ≤ gg) ∧ Aside0 (Jc w (.slice A1 l1.length c1) wr vr vi rs ix P D n1 n2) ∧ Aside0 (n1 + muW P ≤ 32 ∧ n2 + muW D ≤ 32) ∧ Aside0 ((∀ x, wordB x = true → P x = true → YesP rs l1 x) ∧ (∀ x, wordB x = true → D x = true → NoP rs l1 x)) ∧ Aside0 (b = false → (∀ x, wordB x = true → (P x = true ↔ YesP rs l1 x)) ∧ ∀ x, wordB x = true → (D x = true ↔ NoP rs l1 x)))
      case atStart => exact ⟨true, (fun _ => false), (fun _ => false), 0, 0, rfl, (fun _ => by have := muW_le (fun _ => false); omega), HJ, ⟨⟨by have := muW_le (fun _ => false); omega, by have := muW_le (fun _ => false); omega⟩⟩, ⟨⟨(fun x _ h => absurd h (by simp)), (fun x _ h => absurd h (by simp))⟩⟩, ⟨fun h => by cases h⟩⟩
      case round =>
        clear HJ
        obtain ⟨b, P, D, n1, n2, rfl, hgm, HJ, HN, HSd, HFin⟩ := hrel
        cases b with
        | false =>
          go_wp2
          go_ret
          exact ⟨w.heap.size + 1 + 1, rfl, P, D, by rw [HRs.out, HIx.out]; exact HJ.out.court HR1.out hc1, HJ.out.below, by rw [HRs.out]; exact (HFin.out (by trivial)).1, by rw [HRs.out]; exact (HFin.out (by trivial)).2⟩
        | true =>
          have hgm := hgm rfl
          have HM := Aside0.mk (InvC.begin_ HSd.out.1 HSd.out.2)
          clear HFin HSd
          obtain ⟨m0, hm0⟩ : ∃ m0, m0 = muW P + muW D := ⟨_, rfl⟩
          rw [← hm0] at HM hgm
          clear hm0
          have KW := Aside0.mk (impl_words.calls 20 (wordsTo 16) wr words_f)
          go_upto_region 12 with (go_at_call 77; (with_reducible refine KW.out.mono ?_); rintro e w2 ⟨v50, rfl, ho, hb⟩; obtain ⟨A50, c50, rfl, hc50, hC50⟩ := Kd.R_reads ho; have hl50 : (wordsTo 16).length = 32 := rfl; rw [hl50] at hC50 hc50 ho ⊢; have HO := Aside0.mk ho; have HJ2 := Aside0.mk (HJ.out.later hb); clear ho hb hC50 hc50 hl50)
          obtain ⟨base, hbase⟩ : ∃ base, base = wr.heap.size := ⟨_, rfl⟩
          rw [← hbase] at HO
          clear hbase
          go_loopg [10, 12, 52] 32 (fun gg s10 _ s52 wr => ∃ (n : Nat) (b : Bool) (P D : Int → Bool) (n1 n2 : Nat), n ≤ 32 ∧ 32 - n ≤ gg ∧ s52 = .int .i64 n ∧ s10 = .bool b ∧ Aside0 (Jc w (.slice A1 l1.length c1) wr vr vi rs ix P D n1 n2) ∧ Aside0 (n1 + muW P ≤ 32 ∧ n2 + muW D ≤ 32) ∧ Aside0 (Kd.R (Kd.int .i64) 2 wr base (fun _ => True) (.slice A50 32 c50) (wordsTo 16)) ∧ Aside0 (InvC rs l1 m0 b P D (fun x => x ∈ (wordsTo 16).take n)))
          case atStart => exact ⟨0, false, P, D, n1, n2, by omega, by omega, rfl, rfl, HJ2, HN, HO, ⟨HM.out.mono (fun x hx => by simp at hx)⟩⟩
          case round =>
            clear HJ HJ2 HO HN HM KW
            obtain ⟨n, b, P, D, n1, n2, hn, hgn, rfl, rfl, HJ, HN, HO, HM⟩ := hrel
            by_cases hlt : n < 32
            · have hltn : (n : Int) < 32 := by omega
              obtain ⟨_, _, hC50⟩ := Kd.R_reads' HO.out
              obtain ⟨ad, e, hx0⟩ := Kd.at_int hC50 (n : Int) (by omega) (by have : (wordsTo 16).length = 32 := rfl; omega)
              cases e
              simp only [Int.toNat_natCast] at hx0
              obtain ⟨x, hx⟩ : ∃ x, x = rd (wordsTo 16) (n : Int) := ⟨_, rfl⟩
              rw [← hx] at hx0
              have hxe : (wordsTo 16).getD n 0 = x := by rw [hx, rd_nat]
              have hxw : wordB x = true := wordsTo_word (n := 16) (by omega) (by rw [← hxe]; have : n < (wordsTo 16).length := hlt; simp [this])
              have hwf := wf_word hxw
              have HXW := Aside0.mk hxw
              have HXE := Aside0.mk hxe
              clear hx hxe hC50 hxw
              have hc3 : wr.cell? ⟨w.heap.size + 1 + 1, 3, none⟩ = some (.map (some w.heap.size)) := blk_cell HJ.out.blk 3
              have hlk := HJ.out.mp.look hwf
              obtain ⟨t, ht⟩ : ∃ t, t = (!P x && provesB rs l1 P D x) := ⟨_, rfl⟩
              have HT := Aside0.mk ht
              clear ht
              go_upto_region 14 with (fail)
              go_cut [67] (fun s67 wx => s67 = .bool t ∧ Aside0 (Jc w (.slice A1 l1.length c1) wx vr vi rs ix P D n1 n2) ∧ Aside0 (Kd.R (Kd.int .i64) 2 wx base (fun _ => True) (.slice (some ad) 32 c50) (wordsTo 16)))
              case first =>
                cases hp : P x with
                | true =>
                  rw [hp] at hlk
                  have HT := Aside0.mk (HT.out.trans (by rw [hp]; rfl : _ = false))
                  clear hp
                  go_wp2
                  go_meet
                  case rel => exact ⟨by rw [HT.out], HJ, HO⟩
                | false =>
                  rw [hp] at hlk
                  have HT := Aside0.mk (HT.out.trans (by rw [hp]; rfl : _ = provesB rs l1 P D x))
                  clear hp
                  have KP := Aside0.mk (court_proves wr (HJ.out.court HR1.out hc1) HW2.out x HXW.out)
                  go_wp2_with (go_at_call 78; (with_reducible refine KP.out.mono ?_); rintro e w' ⟨rfl, hb⟩)
                  go_meet
                  case rel => exact ⟨by rw [HT.out], ⟨HJ.out.later hb⟩, ⟨Kd.R_below HO.out hb⟩⟩
              case rest =>
                clear HJ HO hc3 hlk hx0
                obtain ⟨rfl, HJ, HO⟩ := hcut
                cases t with
                | false =>
                  have HMid := Aside0.mk (HM.out.mid HT.out)
                  clear HT HM
                  have hc4 : wc.cell? ⟨w.heap.size + 1 + 1, 4, none⟩ = some (.map (some (w.heap.size + 1))) := blk_cell HJ.out.blk 4
                  have hlk := HJ.out.md.look hwf
                  obtain ⟨t2, ht2⟩ : ∃ t2, t2 = (!D x && disprovesB rs l1 P D x) := ⟨_, rfl⟩
                  have HT2 := Aside0.mk ht2
                  clear ht2
                  go_upto_region 16 with (fail)
                  go_cut [86] (fun s86 wx => s86 = .bool t2 ∧ Aside0 (Jc w (.slice A1 l1.length c1) wx vr vi rs ix P D n1 n2) ∧ Aside0 (Kd.R (Kd.int .i64) 2 wx base (fun _ => True) (.slice (some ad) 32 c50) (wordsTo 16)))
                  case first =>
                    cases hp : D x with
                    | true =>
                      rw [hp] at hlk
                      have HT2 := Aside0.mk (HT2.out.trans (by rw [hp]; rfl : _ = false))
                      clear hp
                      go_wp2
                      go_meet
                      case rel => exact ⟨by rw [HT2.out], HJ, HO⟩
                    | false =>
                      rw [hp] at hlk
                      have HT2 := Aside0.mk (HT2.out.trans (by rw [hp]; rfl : _ = disprovesB rs l1 P D x))
                      clear hp
                      have KP := Aside0.mk (court_disproves wc (HJ.out.court HR1.out hc1) HW2.out x HXW.out)
                      go_wp2_with (go_at_call 79; (with_reducible refine KP.out.mono ?_); rintro e w' ⟨rfl, hb⟩)
                      go_meet
                      case rel => exact ⟨by rw [HT2.out], ⟨HJ.out.later hb⟩, ⟨Kd.R_below HO.out hb⟩⟩
                  case rest =>
                    clear HJ HO hc4 hlk
                    obtain ⟨rfl, HJ, HO⟩ := hcut
                    cases t2 with
                    | false =>
                      have HX := Aside0.mk (HMid.out.next (done' := fun z => z ∈ (wordsTo 16).take (n + 1)) HT2.out (fun z hz => take_word hlt HXE.out z hz))
                      go_wp2
                      go_roundg (32 - (n + 1))
                      case measure => omega
                      case rel => exact ⟨n + 1, _, P, D, n1, n2, by omega, by omega, by go_num, rfl, HJ, HN, HO, HX⟩
                    | true =>
                      have hz := ht_true HT2.out
                      have HX := Aside0.mk (HMid.out.inv.disproved (done' := fun z => z ∈ (wordsTo 16).take (n + 1)) HW2.out HXW.out hz.1 hz.2)
                      have HN3 := Aside0.mk (show n1 + muW P ≤ 32 ∧ (n2 + 1) + muW (updW D x) ≤ 32 from ⟨HN.out.1, by have := HN.out.2; have := muW_upd HXW.out hz.1; omega⟩)
                      obtain ⟨v0, st, w5, w6, e1, e3, hm6, hg6⟩ := HJ.out.md.set (by have := HN.out.2; unfold maxLen; omega) hwf
                      have HJ6 := Aside0.mk (HJ.out.setD hm6 hg6)
                      have HO6 := Aside0.mk (Kd.R_of_own (own_map HJ.out.md (Kd.own_of_R HO.out) hg6) (fun _ _ => trivial) : Kd.R (Kd.int .i64) 2 w6 base (fun _ => True) (.slice (some ad) 32 c50) (wordsTo 16))
                      unfold goInt at e1 e3
                      have hc5 : wc.cell? ⟨w.heap.size + 1 + 1, 4, none⟩ = some (.map (some (w.heap.size + 1))) := blk_cell HJ.out.blk 4
                      clear hz hm6 hg6
                      go_wp2
                      go_roundg (32 - (n + 1))
                      case measure => omega
                      case rel => exact ⟨n + 1, true, P, updW D x, n1, n2 + 1, by omega, by omega, by go_num, rfl, HJ6, HN3, HO6, HX⟩
                | true =>
                  have hz := ht_true HT.out
                  have HMid := Aside0.mk (MidC.mk (x := x) (HM.out.proved (done' := fun z => z ∈ (wordsTo 16).take n) HW2.out HXW.out hz.1 hz.2) (fun e => by cases e))
                  have HN := Aside0.mk (show (n1 + 1) + muW (updW P x) ≤ 32 ∧ n2 + muW D ≤ 32 from ⟨by have := HN.out.1; have := muW_upd HXW.out hz.1; omega, HN.out.2⟩)
                  obtain ⟨v0, st, w3, w4, e1, e3, hm4, hg4⟩ := HJ.out.mp.set (by have := HN.out.1; unfold maxLen; omega) hwf
                  have HJ4 := Aside0.mk (HJ.out.setP hm4 hg4)
                  have HO4 := Aside0.mk (Kd.R_of_own (own_map HJ.out.mp (Kd.own_of_R HO.out) hg4) (fun _ _ => trivial) : Kd.R (Kd.int .i64) 2 w4 base (fun _ => True) (.slice (some ad) 32 c50) (wordsTo 16))
                  unfold goInt at e1 e3
                  have hc3 : wc.cell? ⟨w.heap.size + 1 + 1, 3, none⟩ = some (.map (some w.heap.size)) := blk_cell HJ.out.blk 3
                  clear hz hm4 hg4 HT HM
                  go_upto_region 16 with (fail)
                  clear HJ HO e1 e3 hc3
                  have HJ : Aside0 (Jc w (.slice A1 l1.length c1) w4 vr vi rs ix (updW P x) D (n1 + 1) n2) := HJ4
                  have HO := HO4
                  clear HJ4 HO4
                  have hc4 : w4.cell? ⟨w.heap.size + 1 + 1, 4, none⟩ = some (.map (some (w.heap.size + 1))) := blk_cell HJ.out.blk 4
                  have hlk := HJ.out.md.look hwf
                  obtain ⟨t2, ht2⟩ : ∃ t2, t2 = (!D x && disprovesB rs l1 (updW P x) D x) := ⟨_, rfl⟩
                  have HT2 := Aside0.mk ht2
                  clear ht2
                  go_upto_region 16 with (fail)
                  go_cut [86] (fun s86 wx => s86 = .bool t2 ∧ Aside0 (Jc w (.slice A1 l1.length c1) wx vr vi rs ix (updW P x) D (n1 + 1) n2) ∧ Aside0 (Kd.R (Kd.int .i64) 2 wx base (fun _ => True) (.slice (some ad) 32 c50) (wordsTo 16)))
                  case first =>
                    cases hp : D x with
                    | true =>
                      rw [hp] at hlk
                      have HT2 := Aside0.mk (HT2.out.trans (by rw [hp]; rfl : _ = false))
                      clear hp
                      go_wp2
                      go_meet
                      case rel => exact ⟨by rw [HT2.out], HJ, HO⟩
                    | false =>
                      rw [hp] at hlk
                      have HT2 := Aside0.mk (HT2.out.trans (by rw [hp]; rfl : _ = disprovesB rs l1 (updW P x) D x))
                      clear hp
                      have KP := Aside0.mk (court_disproves w4 (HJ.out.court HR1.out hc1) HW2.out x HXW.out)
                      go_wp2_with (go_at_call 79; (with_reducible refine KP.out.mono ?_); rintro e w' ⟨rfl, hb⟩)
                      go_meet
                      case rel => exact ⟨by rw [HT2.out], ⟨HJ.out.later hb⟩, ⟨Kd.R_below HO.out hb⟩⟩
                  case rest =>
                    clear HJ HO hc4 hlk
                    obtain ⟨rfl, HJ, HO⟩ := hcut
                    cases t2 with
                    | false =>
                      have HX := Aside0.mk (HMid.out.next (done' := fun z => z ∈ (wordsTo 16).take (n + 1)) HT2.out (fun z hz => take_word hlt HXE.out z hz))
                      go_wp2
                      go_roundg (32 - (n + 1))
                      case measure => omega
                      case rel => exact ⟨n + 1, _, (updW P x), D, (n1 + 1), n2, by omega, by omega, by go_num, rfl, HJ, HN, HO, HX⟩
                    | true =>
                      have hz := ht_true HT2.out
                      have HX := Aside0.mk (HMid.out.inv.disproved (done' := fun z => z ∈ (wordsTo 16).take (n + 1)) HW2.out HXW.out hz.1 hz.2)
                      have HN3 := Aside0.mk (show (n1 + 1) + muW (updW P x) ≤ 32 ∧ (n2 + 1) + muW (updW D x) ≤ 32 from ⟨HN.out.1, by have := HN.out.2; have := muW_upd HXW.out hz.1; omega⟩)
                      obtain ⟨v0, st, w5, w6, e1, e3, hm6, hg6⟩ := HJ.out.md.set (by have := HN.out.2; unfold maxLen; omega) hwf
                      have HJ6 := Aside0.mk (HJ.out.setD hm6 hg6)
                      have HO6 := Aside0.mk (Kd.R_of_own (own_map HJ.out.md (Kd.own_of_R HO.out) hg6) (fun _ _ => trivial) : Kd.R (Kd.int .i64) 2 w6 base (fun _ => True) (.slice (some ad) 32 c50) (wordsTo 16))
                      unfold goInt at e1 e3
                      have hc5 : wc.cell? ⟨w.heap.size + 1 + 1, 4, none⟩ = some (.map (some (w.heap.size + 1))) := blk_cell HJ.out.blk 4
                      clear hz hm6 hg6
                      go_wp2
                      go_roundg (32 - (n + 1))
                      case measure => omega
                      case rel => exact ⟨n + 1, true, (updW P x), updW D x, (n1 + 1), n2 + 1, by omega, by omega, by go_num, rfl, HJ6, HN3, HO6, HX⟩
            · have hltn : ¬ (n : Int) < 32 := by omega
              obtain rfl : n = 32 := by omega
              have HD := Aside0.mk (show ∀ x, wordB x = true → x ∈ (wordsTo 16).take 32 from fun x hx => by have := word_in hx; rwa [List.take_of_length_le (by rw [wordsTo_len]; exact Nat.le_refl _)])
              cases b with
              | true =>
                have hless := HM.out.less rfl
                go_wp2
                go_roundg (muW P + muW D + 1)
                case measure => omega
                case rel => exact ⟨true, P, D, n1, n2, rfl, (fun _ => Nat.le_refl _), HJ, HN, ⟨⟨HM.out.yes, HM.out.no⟩⟩, ⟨fun e => by cases e⟩⟩
              | false =>
                have HE := Aside0.mk (HM.out.ends HF.out HAp.out HD.out)
                go_wp2
                go_roundg 0
                case measure => omega
                case rel => exact ⟨false, P, D, n1, n2, rfl, (fun e => by cases e), HJ, HN, ⟨⟨HM.out.yes, HM.out.no⟩⟩, ⟨fun _ => HE.out⟩⟩
end Go.Proofs.YtoippneeagaceaaGreat.PR

namespace Go.Proofs.YtoippneeagaceaaGreat.Srt
open Go.Proofs Go.Shelf
def lays125_ren : Go.Shelf.Ren := ⟨fun | 125 => 92 | 128 => 116 | 129 => 117 | n => n, fun | 46 => 106 | 3 => 3 | 51 => 123 | 53 => 88 | 4 => 4 | 5 => 5 | 9 => 9 | n => n, fun | n => n⟩
theorem lays125 : Go.Proofs.Lays.n125 Tryz.prog lays125_ren := {
  mixed := by kernel_rfl
  f125 := Tryz.func92.trans (congrArg some (by kernel_rfl))
  f128 := Tryz.func116.trans (congrArg some (by kernel_rfl))
  f129 := Tryz.func117.trans (congrArg some (by kernel_rfl))
  t3 := Tryz.underlying3
  a3 := Tryz.isAgg3
  z3 := Tryz.sizeOf3
  v3 := Tryz.zeroValue3
  t4 := Tryz.underlying4
  a4 := Tryz.isAgg4
  z4 := Tryz.sizeOf4
  v4 := Tryz.zeroValue4
  t5 := Tryz.underlying5
  a5 := Tryz.isAgg5
  z5 := Tryz.sizeOf5
  v5 := Tryz.zeroValue5
  t9 := Tryz.underlying9
  a9 := Tryz.isAgg9
  z9 := Tryz.sizeOf9
  v9 := Tryz.zeroValue9
  t46 := Tryz.underlying106
  a46 := Tryz.isAgg106
  z46 := Tryz.sizeOf106
  v46 := Tryz.zeroValue106
  t51 := Tryz.underlying123
  a51 := Tryz.isAgg123
  z51 := Tryz.sizeOf123
  v51 := Tryz.zeroValue123
  t53 := Tryz.underlying88
  a53 := Tryz.isAgg88
  z53 := Tryz.sizeOf88
  v53 := Tryz.zeroValue88 }
theorem Z.bits_Len (x : Int) (w : World) (h0 : 0 ≤ x) (h1 : x ≤ 18446744073709551615) :
    Calls Tryz.prog 92 #[.int .u64 x] w fun e w' => e = .returned (.int .i64 (Lib.bitLen x.toNat)) ∧ w' = w := Any.bits_Len lays125 x w h0 h1
end Go.Proofs.YtoippneeagaceaaGreat.Srt

namespace Go.Proofs.YtoippneeagaceaaGreat.Srt
open Go.Proofs Go.RowKit Go.Sort
set_option linter.unusedVariables false
set_option linter.unusedSimpArgs false
set_option maxHeartbeats 1000000 in
theorem Z.cmp_isNaN_int (x : Int) (w : World) : Calls Tryz.prog 128 #[.int .i64 x] w fun e w' => e = .returned (.bool false) ∧ w' = w := by
  go_enter Tryz.func128, Tryz.ntmps128
  go_wp2
  go_ret
  exact ⟨by simp, rfl⟩
set_option maxHeartbeats 1000000 in
/-- cmp.Less[int]: IT RETURNS 'Sort.ltInt x y'; the world is as it was. -/
theorem Z.cmp_Less_int (x y : Int) (w : World) : Calls Tryz.prog 113 #[.int .i64 x, .int .i64 y] w fun e w' => e = .returned (.bool (Sort.ltInt x y)) ∧ w' = w := by
  go_enter Tryz.func113, Tryz.ntmps113
  go_wp2_with (go_at_call 128; refine (Z.cmp_isNaN_int _ _).mono ?_; rintro e w' ⟨rfl, rfl⟩)
  go_ret
  exact ⟨rfl, rfl⟩
def intOf : Value → Int | .int _ q => q | _ => 0
section
variable {α : Type} [Inhabited α] (lt : α → α → Bool)
theorem insInner_go (a j : Nat) (d : Array α) (hj : a < j) (hl : lt d[j]! d[j - 1]! = true) : insInner lt a j d = insInner lt a (j - 1) (swp d j (j - 1)) := by
  obtain ⟨k, rfl⟩ : ∃ k, j = k + 1 := ⟨j - 1, by omega⟩
  rw [insInner]
  simp only [Nat.add_sub_cancel] at hl ⊢
  simp [hj, hl]
theorem insInner_stop (a j : Nat) (d : Array α) (h : j ≤ a ∨ lt d[j]! d[j - 1]! = false) : insInner lt a j d = d := by
  cases j with
  | zero => rw [insInner]
  | succ k =>
    rw [insInner]
    simp only [Nat.add_sub_cancel] at h
    rcases h with h | h
    · simp [show ¬ k + 1 > a by omega]
    · simp [h]
theorem insOuter_go (a b i : Nat) (d : Array α) (h : i < b) : insOuter lt a b i d = insOuter lt a b (i + 1) (insInner lt a i d) := by rw [insOuter, if_pos h]
theorem insOuter_stop (a b i : Nat) (d : Array α) (h : ¬ i < b) : insOuter lt a b i d = d := by rw [insOuter, if_neg h]
end
section
variable {α : Type} [Inhabited α] (enc : α → Value)
theorem putRow_drewN (w : World) (m q blk off : Nat) (d : Array α) : (putRow enc (Sort.ahead w m) blk off d).drewN q = putRow enc (Sort.ahead w (m + q)) blk off d := by
  show Sort.ahead (putRow enc (Sort.ahead w m) blk off d) q = _
  rw [putRow_ahead enc w m, ahead_ahead, ← putRow_ahead]
/-- 'data[j], data[k] = data[k], data[j]', q draws on. -/
theorem swap_worldA (w : World) (m q blk off : Nat) (d : Array α) (j k : Nat) (hj : j < d.size) (hk : k < d.size) :
    (((putRow enc (Sort.ahead w m) blk off d).drewN q).setCell ⟨blk, off + j, none⟩ (enc d[k]!)).setCell ⟨blk, off + k, none⟩ (enc d[j]!) = putRow enc (Sort.ahead w (m + q)) blk off (swp d j k) := by
  rw [putRow_drewN]
  exact putRow_swp enc _ blk off d j k hj hk
end
/-- WALK 1 OF THE PLAN, at int: THE LIBRARY's OWN TEXT COMPUTES 'Sort.insertionSort'; nothing else turns but the count of draws. -/
theorem Z.insertionSort_int (blk off cap a b : Nat) (d : Array Int) (w : World) (hH : Holds (Value.int .i64) w blk off d) (hab : a ≤ b) (hb : b ≤ d.size) (hsz : d.size < 4611686018427387904) :
    Calls Tryz.prog 107 #[.slice (some ⟨blk, off, none⟩) d.size cap, .int .i64 a, .int .i64 b] w fun e w' =>
      e = .returned (.tuple #[]) ∧ ∃ n, w' = putRow (Value.int .i64) (Sort.ahead w n) blk off (Sort.insertionSort ltInt d a b) := by
  go_enter Tryz.func107, Tryz.ntmps107
  go_wp2
  go_loopw [6] (fun vi wr => ∃ (i n : Nat) (dk : Array Int), vi = .int .i64 i ∧ a < i ∧ i ≤ b + 1 ∧ dk.size = d.size ∧ wr = putRow (Value.int .i64) (Sort.ahead w n) blk off dk ∧
      insOuter ltInt a b i dk = insOuter ltInt a b (a + 1) d) (fun vi _ => b + 1 - (intOf vi).toNat)
  case atStart => exact ⟨a + 1, 0, d, by go_num, by omega, by omega, rfl, (putRow_self _ _ _ _ _ hH).symm, rfl⟩
  case round =>
    obtain ⟨i, n, dk, rfl, hai, hib, hsk, hwr, hO⟩ := hrel
    have HO : Hid (insOuter ltInt a b i dk = insOuter ltInt a b (a + 1) d) := hO
    clear hO
    go_wp2
    · -- i < b: the inner loop
      go_loopw [7] (fun vj wr2 => ∃ (j m : Nat) (dj : Array Int), vj = .int .i64 j ∧ a ≤ j ∧ j ≤ i ∧ dj.size = d.size ∧ wr2 = putRow (Value.int .i64) (Sort.ahead w m) blk off dj ∧
          insInner ltInt a j dj = insInner ltInt a i dk) (fun vj _ => (intOf vj).toNat)
      case atStart => exact ⟨i, n, dk, rfl, by omega, Nat.le_refl _, hsk, rfl, rfl⟩
      case round =>
        obtain ⟨j, m, dj, rfl, haj, hji, hsj, hw2, hI⟩ := hrel
        have hlt : i < b := by assumption
        -- the row's contents under a name of their own (the authors' find: with 'j < d.size' at hand the walk's simp turns 'dj[j]!' into 'dj[j]'); its two families: Derived/CellFam.lean serves every load and store from them
        obtain ⟨G, hG⟩ : ∃ G : Nat → Int, ∀ t, G t = dj[t]! := ⟨fun t => dj[t]!, fun _ => rfl⟩
        have hcw : ∀ t, t < d.size → wr.cell? ⟨blk, off + t, none⟩ = some (.int .i64 (G t)) := fun t ht => by
          rw [hw2, hG]; exact cell?_putRow _ _ _ _ d dj (holds_ahead _ _ _ _ _ _ hH) hsj t (by omega)
        have hfw : ∀ t, t < d.size → wr.frozen? ⟨blk, off + t, none⟩ = false := fun t ht => by
          rw [hw2, frozen?_putRow]; exact ((holds_ahead _ _ m _ _ _ hH) t ht).2
        have HW : Hid (wr = putRow (Value.int .i64) (Sort.ahead w m) blk off dj) := hw2
        have HG : Hid (∀ t, G t = dj[t]!) := hG
        have HI : Hid (insInner ltInt a j dj = insInner ltInt a i dk) := hI
        clear hw2 hG hI hH
        -- out of the inner loop: dj is what the inner loop makes of dk: the outer round's end
        have out : (j ≤ a ∨ ltInt dj[j]! dj[j - 1]! = false) → ∀ q, ∃ i' n' dk', Value.int .i64 ((i : Int) + 1) = .int .i64 (i' : Nat) ∧ a < i' ∧ i' ≤ b + 1 ∧ dk'.size = d.size ∧
            wr.drewN q = putRow (Value.int .i64) (Sort.ahead w n') blk off dk' ∧ insOuter ltInt a b i' dk' = insOuter ltInt a b (a + 1) d := fun hs q =>
          ⟨i + 1, m + q, dj, by go_num, by omega, by omega, hsj, by rw [HW.out]; exact putRow_drewN _ _ _ _ _ _ _,
            by rw [← HO.out, insOuter_go _ _ _ _ _ hlt, ← HI.out, insInner_stop _ _ _ _ hs]⟩
        have OUT : Hid _ := out
        clear out
        go_wp2
        by_cases hja : a < j
        · go_quiet (first | (go_at_call 113; refine Calls.quiet_of_same (Z.cmp_Less_int _ _ _)))
          go_wp2
          · -- Less: the swap, j--
            have hl : ltInt (G j) (G (j - 1)) = true := by assumption
            go_region
            all_goals go_wp2
            go_roundw
            case rel =>
              refine ⟨j - 1, m + (nq + 1), swp dj j (j - 1), by congr 1; omega, by omega, by omega, by rw [size_swp]; exact hsj, ?_, ?_⟩
              · rw [HW.out, HG.out, HG.out]
                exact swap_worldA _ w m (nq + 1) blk off dj j (j - 1) (by omega) (by omega)
              · rw [← HI.out, insInner_go ltInt a j dj hja (by rw [← HG.out, ← HG.out]; exact hl)]
            case measure => simp [intOf]; omega
          · -- not Less
            have hl : ltInt (G j) (G (j - 1)) = false := by assumption
            go_roundw
            case rel => exact OUT.out (Or.inr (by rw [← HG.out, ← HG.out]; exact hl)) nq
            case measure => simp [intOf]; omega
        · go_quiet (first | (go_at_call 113; refine Calls.quiet_of_same (Z.cmp_Less_int _ _ _)))
          go_wp2
          go_roundw
          case rel => exact OUT.out (Or.inl (by omega)) nq
          case measure => simp [intOf]; omega
    · -- the outer loop is at its end
      have hge : ¬ i < b := by assumption
      go_end0
      exact ⟨rfl, n, by unfold Sort.insertionSort; rw [← HO.out, insOuter_stop _ _ _ _ _ hge]⟩
/-- The shelf's 'Lib.bitLen' (so many halvings till nothing is left) IS the plan's 'bitsLen' ('Nat.log2 n + 1'; 0 at 0). -/
theorem bitLen_eq (x : Nat) (h : x < 2 ^ 64) : Lib.bitLen x = bitsLen x := by
  induction x using Nat.strongRecOn with
  | _ x ih =>
    by_cases h0 : x = 0
    · subst h0; rfl
    · rw [Lib.bitLen_half x h0 h, ih (x / 2) (by omega) (by omega)]
      unfold bitsLen
      rw [if_neg h0, Nat.log2_def x]
      by_cases h2 : 2 ≤ x
      · rw [if_pos h2, if_neg (by omega)]; omega
      · obtain rfl : x = 1 := by omega
        simp
/-- WALK 13's CONTRACT, as the plan writes it, at int. -/
def pdqWalk_int : Prop := ∀ (blk off cap a b limit : Nat) (d : Array Int) (w : World), Holds (Value.int .i64) w blk off d → blk < w.heap.size → a ≤ b → b ≤ d.size → d.size < 4611686018427387904 → limit < 4611686018427387904 → Below ltInt a b d →
  Calls Tryz.prog 91 #[.slice (some ⟨blk, off, none⟩) d.size cap, .int .i64 a, .int .i64 b, .int .i64 limit] w fun e w' =>
    e = .returned (.tuple #[]) ∧ ∃ n os, w' = grow (putRow (Value.int .i64) (Sort.ahead w n) blk off (Sort.pdq ltInt d a b limit true true)) os
set_option maxRecDepth 100000 in
/-- WALK 14 OF THE PLAN, at int: slices.Sort's own body. -/
theorem Z.Sort_int (hpdq : pdqWalk_int) (blk off cap : Nat) (d : Array Int) (w : World) (hH : Holds (Value.int .i64) w blk off d) (hblk : blk < w.heap.size) (hsz : d.size < 4611686018427387904) :
    Calls Tryz.prog 66 #[.slice (some ⟨blk, off, none⟩) d.size cap] w fun e w' => e = .returned (.tuple #[]) ∧ ∃ n os, w' = grow (putRow (Value.int .i64) (Sort.ahead w n) blk off (Sort.sort ltInt d)) os := by
  have HH : Hid (Holds (Value.int .i64) w blk off d) := hH
  clear hH
  have hLen : ∀ w, Calls Tryz.prog 92 #[.int .u64 (d.size : Int)] w fun e w' => e = .returned (.int .i64 (bitsLen d.size : Nat)) ∧ w' = w := fun w => by
    have h := Z.bits_Len (d.size : Int) w (by omega) (by omega)
    rwa [Int.toNat_natCast, bitLen_eq _ (by omega)] at h
  have hk : bitsLen d.size ≤ 62 := (bitsLen_le_iff d.size 62).2 (by omega)
  go_enter Tryz.func66, Tryz.ntmps66
  go_wp2_with (first
    | (go_at_call 92; refine (hLen _).mono ?_; rintro e w' ⟨rfl, rfl⟩)
    | (go_at_call 91; refine (hpdq blk off cap 0 d.size (bitsLen d.size) d _ (by exact HH.out) (by exact hblk) (Nat.zero_le _) (Nat.le_refl _) hsz (by omega) (Or.inl rfl)).mono ?_; rintro e w' ⟨rfl, n, os, rfl⟩))
  go_end0
  exact ⟨rfl, n, os, rfl⟩
/-- insertionSortOrdered[int] of no element: 'i := 1; 1 < 0' is false. -/
theorem Z.insertionSort_int_nil (p : Option Addr) (cap : Nat) (w : World) :
    Calls Tryz.prog 107 #[.slice p 0 cap, .int .i64 0, .int .i64 0] w fun e w' => e = .returned (.tuple #[]) ∧ w' = w := by
  go_enter Tryz.func107, Tryz.ntmps107
  go_wp2
  refine wp_loop_rounds 1 ?_
  rw [rounds_succ]
  go_wp2
  go_end0
  exact ⟨rfl, rfl⟩
set_option maxRecDepth 100000 in
/-- pdqsortOrdered[int] of no element: 'length <= maxInsertion' at once. -/
theorem Z.pdqsort_int_nil (p : Option Addr) (cap : Nat) (w : World) :
    Calls Tryz.prog 91 #[.slice p 0 cap, .int .i64 0, .int .i64 0, .int .i64 0] w fun e w' => e = .returned (.tuple #[]) ∧ w' = w := by
  go_enter Tryz.func91, Tryz.ntmps91
  go_wp2
  refine wp_loop_rounds 1 ?_
  rw [rounds_succ]
  go_wp2_with (first | (go_at_call 107; refine (Z.insertionSort_int_nil p cap _).mono ?_; rintro e w' ⟨rfl, rfl⟩))
  refine bodyPost_ret (results_none rfl _ _ _) rfl ?_      -- an explicit 'return' in a function without results
  exact ⟨rfl, rfl⟩
set_option maxRecDepth 100000 in
/-- slices.Sort of no element. -/
theorem Z.Sort_int_nil (p : Option Addr) (cap : Nat) (w : World) :
    Calls Tryz.prog 66 #[.slice p 0 cap] w fun e w' => e = .returned (.tuple #[]) ∧ w' = w := by
  have hLen : ∀ w, Calls Tryz.prog 92 #[.int .u64 0] w fun e w' => e = .returned (.int .i64 0) ∧ w' = w := fun w => Z.bits_Len 0 w (by omega) (by omega)
  go_enter Tryz.func66, Tryz.ntmps66
  go_wp2_with (first
    | (go_at_call 92; refine (hLen _).mono ?_; rintro e w' ⟨rfl, rfl⟩)
    | (go_at_call 91; refine (Z.pdqsort_int_nil p cap _).mono ?_; rintro e w' ⟨rfl, rfl⟩))
  go_end0
  exact ⟨rfl, rfl⟩
end Go.Proofs.YtoippneeagaceaaGreat.Srt

namespace Go.Proofs.YtoippneeagaceaaGreat.Srt
open Go.Proofs Go.RowKit Go.Sort
set_option linter.unusedVariables false
set_option linter.unusedSimpArgs false
abbrev encI : Int → Value := fun x => Value.int .i64 x
theorem swap_world {α : Type} [Inhabited α] (enc : α → Value) {w wr : World} {n blk off : Nat} {dk : Array α} {i j : Nat} (hi : i < dk.size) (hj : j < dk.size) (hwr : wr = putRow enc (Sort.ahead w n) blk off dk)
    {x y : Value} (hx : x = enc dk[j]!) (hy : y = enc dk[i]!) : ((wr.setCell ⟨blk, off + i, none⟩ x).setCell ⟨blk, off + j, none⟩ y).drew = putRow enc (Sort.ahead w (n + 1)) blk off (swp dk i j) := by
  subst hwr; subst hx; subst hy
  rw [putRow_swp enc _ blk off dk i j hi hj, ← ahead_drew]
  rfl
set_option maxHeartbeats 1600000 in
set_option maxRecDepth 1000000 in
theorem Z.reverseRange_int (blk off cap : Nat) (d : Array Int) (a b : Nat) (w : World) (hH : Holds encI w blk off d) (hab : a ≤ b) (hb : b ≤ d.size) (hsz : d.size < 4611686018427387904) :
    Calls Tryz.prog 111 #[.slice (some ⟨blk, off, none⟩) d.size cap, .int .i64 a, .int .i64 b] w fun e w' => e = .returned (.tuple #[]) ∧ ∃ n, w' = putRow encI (Sort.ahead w n) blk off (reverseRange d a b) := by
  go_enter Tryz.func111, Tryz.ntmps111
  go_wp2
  go_loopg [6, 7] (b - a) (fun k s6 s7 wr => ∃ (i jn : Nat) (jz : Int) (dk : Array Int) (n : Nat), s6 = .int .i64 i ∧ s7 = .int .i64 jz ∧ ((i : Int) < jz → jz = jn ∧ jn < d.size) ∧ (¬ (i : Int) < jz → ¬ i < jn) ∧ jn - i ≤ k ∧
    dk.size = d.size ∧ wr = putRow encI (Sort.ahead w n) blk off dk ∧ reverseLoop i jn dk = reverseLoop a (b - 1) d)
  case atStart => exact ⟨a, b - 1, (b : Int) - 1, d, 0, rfl, rfl, fun h => ⟨by omega, by omega⟩, fun h => by omega, by omega, rfl, (putRow_self encI w blk off d hH).symm, rfl⟩
  case round =>
    obtain ⟨i, jn, jz, dk, n, rfl, rfl, h1, h2, hk, hds, hwr, heq⟩ := hrel
    by_cases hlt : (i : Int) < jz
    · obtain ⟨rfl, hjn⟩ := h1 hlt
      have hij : i < jn := by omega
      have hHk : Holds encI wr blk off dk := by rw [hwr]; exact holds_putRow encI _ blk off d dk (holds_ahead encI w n blk off d hH) hds
      obtain ⟨ci, fi⟩ := hHk i (by omega)
      obtain ⟨cj, fj⟩ := hHk jn (by omega)
      have A : Aside (wr = putRow encI (Sort.ahead w n) blk off dk) := hwr
      clear hwr hHk hH h1 h2
      go_wp2_with fail
      go_region
      go_wp2
      go_roundg (jn - 1 - (i + 1))
      case measure => omega
      case rel =>
        rw [reverseLoop, if_pos hij] at heq
        exact ⟨i + 1, jn - 1, (jn : Int) - 1, swp dk i jn, n + 1, by simp, rfl, fun h => ⟨by omega, by omega⟩, fun h => by omega, Nat.le_refl _, by rw [size_swp]; exact hds,
          swap_world encI (by omega) (by omega) A.out (by simp [encI, getElem!_pos, show jn < dk.size by omega]) rfl, heq⟩
    · have hnot := h2 hlt
      go_wp2
      go_end0
      refine ⟨rfl, n, ?_⟩
      rw [reverseLoop, if_neg hnot] at heq
      rw [reverseRange, ← heq]
variable {α : Type} [Inhabited α] (lt : α → α → Bool)
/-! ### 'siftDown', laid open once, by what the tests say -/
theorem sd_end {hi F root : Nat} (d : Array α) (h : hi ≤ 2 * root + 1) : siftDown lt hi F root d = d := by rw [siftDown, dif_pos h]
theorem sd_right_stop {hi F root : Nat} (d : Array α) (h1 : 2 * root + 2 < hi) (h2 : lt d[F + (2 * root + 1)]! d[F + (2 * root + 2)]! = true) (h3 : lt d[F + root]! d[F + (2 * root + 2)]! = false) : siftDown lt hi F root d = d := by
  rw [siftDown, dif_neg (by omega), show F + (2 * root + 1) + 1 = F + (2 * root + 2) by omega, h2, h3]
  simp [show 2 * root + 1 + 1 < hi by omega]
theorem sd_right_go {hi F root : Nat} (d : Array α) (h1 : 2 * root + 2 < hi) (h2 : lt d[F + (2 * root + 1)]! d[F + (2 * root + 2)]! = true) (h3 : lt d[F + root]! d[F + (2 * root + 2)]! = true) :
    siftDown lt hi F root d = siftDown lt hi F (2 * root + 2) (swp d (F + root) (F + (2 * root + 2))) := by
  rw [siftDown, dif_neg (by omega), show F + (2 * root + 1) + 1 = F + (2 * root + 2) by omega, h2, h3]
  simp [show 2 * root + 1 + 1 < hi by omega]
theorem sd_left_stop {hi F root : Nat} (d : Array α) (h0 : 2 * root + 1 < hi) (h1 : 2 * root + 2 < hi → lt d[F + (2 * root + 1)]! d[F + (2 * root + 2)]! = false) (h3 : lt d[F + root]! d[F + (2 * root + 1)]! = false) : siftDown lt hi F root d = d := by
  rw [siftDown, dif_neg (by omega), show F + (2 * root + 1) + 1 = F + (2 * root + 2) by omega, h3]
  by_cases h : 2 * root + 2 < hi
  · simp [h1 h]
  · simp [show ¬ 2 * root + 1 + 1 < hi by omega]
theorem sd_left_go {hi F root : Nat} (d : Array α) (h0 : 2 * root + 1 < hi) (h1 : 2 * root + 2 < hi → lt d[F + (2 * root + 1)]! d[F + (2 * root + 2)]! = false) (h3 : lt d[F + root]! d[F + (2 * root + 1)]! = true) :
    siftDown lt hi F root d = siftDown lt hi F (2 * root + 1) (swp d (F + root) (F + (2 * root + 1))) := by
  rw [siftDown, dif_neg (by omega), show F + (2 * root + 1) + 1 = F + (2 * root + 2) by omega, h3]
  by_cases h : 2 * root + 2 < hi
  · simp [h1 h]
  · simp [show ¬ 2 * root + 1 + 1 < hi by omega]
/-- m draws further. -/
theorem drewN_world {α : Type} [Inhabited α] (enc : α → Value) {w wr : World} {n blk off : Nat} {dk : Array α} (hwr : wr = putRow enc (Sort.ahead w n) blk off dk) (m : Nat) : wr.drewN m = putRow enc (Sort.ahead w (n + m)) blk off dk := by
  subst hwr
  rw [← ahead_ahead]
  rfl
set_option maxHeartbeats 3200000 in
set_option maxRecDepth 1000000 in
theorem Z.siftDown_int (blk off len cap : Nat) (d : Array Int) (hlen : d.size = len) (lo hi first : Nat) (w : World) (hH : Holds encI w blk off d) (hlo : lo ≤ hi) (hb : first + hi ≤ d.size) (hsz : d.size < 4611686018427387904) :
    Calls Tryz.prog 123 #[.slice (some ⟨blk, off, none⟩) len cap, .int .i64 lo, .int .i64 hi, .int .i64 first] w fun e w' => e = .returned (.tuple #[]) ∧ ∃ n, w' = putRow encI (Sort.ahead w n) blk off (siftDown ltInt hi first lo d) := by
  subst hlen
  go_enter Tryz.func123, Tryz.ntmps123
  go_wp2
  go_loopg [8] (hi - lo) (fun k s8 wr => ∃ (root : Nat) (dk : Array Int) (n : Nat), s8 = .int .i64 root ∧ root ≤ hi ∧ hi - root ≤ k ∧ dk.size = d.size ∧ wr = putRow encI (Sort.ahead w n) blk off dk ∧ siftDown ltInt hi first root dk = siftDown ltInt hi first lo d)
  case atStart => exact ⟨lo, d, 0, rfl, hlo, Nat.le_refl _, rfl, (putRow_self encI w blk off d hH).symm, rfl⟩
  case round =>
    obtain ⟨root, dk, n, rfl, hr, hk, hds, hwr, heq⟩ := hrel
    have hHk : Holds encI wr blk off dk := by rw [hwr]; exact holds_putRow encI _ blk off d dk (holds_ahead encI w n blk off d hH) hds
    -- THE ROW's TWO FAMILIES (the authors' Derived/CellFam.lean finds each cell in them)
    have hcw : ∀ t, t < d.size → wr.cell? ⟨blk, off + t, none⟩ = some (.int .i64 dk[t]!) := fun t ht => (hHk t (by omega)).1
    have hfw : ∀ t, t < d.size → wr.frozen? ⟨blk, off + t, none⟩ = false := fun t ht => (hHk t (by omega)).2
    have A : Aside (wr = putRow encI (Sort.ahead w n) blk off dk) := hwr
    clear hwr hH hHk
    by_cases h0 : hi ≤ 2 * root + 1
    · -- no child: the loop is left
      have h0z : (hi : Int) ≤ 2 * (root : Int) + 1 := by omega
      go_wp2
      go_end0
      refine ⟨rfl, n, ?_⟩
      rw [A.out, ← heq, sd_end ltInt dk h0]
    · -- (the tests, AS THE WALK SPELLS THEM: over Int: a guard that is not decided stops the quiet walk)
      have h0z : ¬ ((hi : Int) ≤ 2 * (root : Int) + 1) := by omega
      by_cases h1 : 2 * root + 2 < hi
      · have h1z : 2 * (root : Int) + 1 + 1 < (hi : Int) := by omega
        go_wp2_with fail
        go_big_quiet (first | (go_at_call 113; refine Calls.quiet_of_same (Z.cmp_Less_int _ _ _)))
        go_wp2_with fail
        · -- THE RIGHT CHILD IS THE GREATER
          have hL : ltInt dk[first + 2 * root + 1]! dk[first + 2 * root + 2]! = true := by assumption
          revert nq; intro nq1      -- (the next quiet region brings an 'nq' of its own)
          have hcw2 : ∀ t, t < d.size → (wr.drewN nq1).cell? ⟨blk, off + t, none⟩ = some (.int .i64 dk[t]!) := hcw
          have hfw2 : ∀ t, t < d.size → (wr.drewN nq1).frozen? ⟨blk, off + t, none⟩ = false := hfw
          have A2 : Aside (wr.drewN nq1 = putRow encI (Sort.ahead w (n + nq1)) blk off dk) := drewN_world encI A.out nq1
          clear hcw hfw A
          generalize wr.drewN nq1 = wr2 at hcw2 hfw2 A2 ⊢
          go_big_quiet (first | (go_at_call 113; refine Calls.quiet_of_same (Z.cmp_Less_int _ _ _)))
          go_wp2_with fail
          · -- the hole is not less than the greater child: return
            have hS : ltInt dk[first + root]! dk[first + 2 * root + 2]! = false := by
              have : (!ltInt dk[first + root]! dk[first + 2 * root + 2]!) = true := by assumption
              simpa using this
            (try simp only [Exit.inBlock, Exit.then]); refine bodyPost_ret (results_none rfl _ _ _) rfl ?_      -- (an explicit 'return' of a function without results)
            refine ⟨rfl, n + nq1 + nq, ?_⟩
            rw [drewN_world encI A2.out nq, ← heq, sd_right_stop ltInt dk h1 hL hS]
          · -- it is: they are swapped, and the hole goes down
            have hG : ltInt dk[first + root]! dk[first + 2 * root + 2]! = true := by
              have : (!ltInt dk[first + root]! dk[first + 2 * root + 2]!) = false := by assumption
              simpa using this
            have hcw3 : ∀ t, t < d.size → (wr2.drewN nq).cell? ⟨blk, off + t, none⟩ = some (.int .i64 dk[t]!) := hcw2
            have hfw3 : ∀ t, t < d.size → (wr2.drewN nq).frozen? ⟨blk, off + t, none⟩ = false := hfw2
            have A3 : Aside (wr2.drewN nq = putRow encI (Sort.ahead w (n + nq1 + nq)) blk off dk) := drewN_world encI A2.out nq
            clear hcw2 hfw2 A2
            generalize wr2.drewN nq = wr3 at hcw3 hfw3 A3 ⊢
            go_region
            go_wp2
            go_roundg (hi - (2 * root + 2))
            case measure => omega
            case rel =>
              refine ⟨2 * root + 2, swp dk (first + root) (first + (2 * root + 1 + 1)), n + nq1 + nq + 1, by simp <;> omega, by omega, Nat.le_refl _, by rw [size_swp]; exact hds, swap_world encI (by omega) (by omega) A3.out rfl rfl, ?_⟩
              rw [← heq, sd_right_go ltInt dk h1 hL hG]
        · -- THE LEFT CHILD IS NOT LESS THAN THE RIGHT
          have hL : ltInt dk[first + 2 * root + 1]! dk[first + 2 * root + 2]! = false := by assumption
          revert nq; intro nq1      -- (the next quiet region brings an 'nq' of its own)
          have hcw2 : ∀ t, t < d.size → (wr.drewN nq1).cell? ⟨blk, off + t, none⟩ = some (.int .i64 dk[t]!) := hcw
          have hfw2 : ∀ t, t < d.size → (wr.drewN nq1).frozen? ⟨blk, off + t, none⟩ = false := hfw
          have A2 : Aside (wr.drewN nq1 = putRow encI (Sort.ahead w (n + nq1)) blk off dk) := drewN_world encI A.out nq1
          clear hcw hfw A
          generalize wr.drewN nq1 = wr2 at hcw2 hfw2 A2 ⊢
          go_big_quiet (first | (go_at_call 113; refine Calls.quiet_of_same (Z.cmp_Less_int _ _ _)))
          go_wp2_with fail
          · -- the hole is not less than the greater child: return
            have hS : ltInt dk[first + root]! dk[first + 2 * root + 1]! = false := by
              have : (!ltInt dk[first + root]! dk[first + 2 * root + 1]!) = true := by assumption
              simpa using this
            (try simp only [Exit.inBlock, Exit.then]); refine bodyPost_ret (results_none rfl _ _ _) rfl ?_      -- (an explicit 'return' of a function without results)
            refine ⟨rfl, n + nq1 + nq, ?_⟩
            rw [drewN_world encI A2.out nq, ← heq, sd_left_stop ltInt dk (by omega) (fun _ => hL) hS]
          · -- it is: they are swapped, and the hole goes down
            have hG : ltInt dk[first + root]! dk[first + 2 * root + 1]! = true := by
              have : (!ltInt dk[first + root]! dk[first + 2 * root + 1]!) = false := by assumption
              simpa using this
            have hcw3 : ∀ t, t < d.size → (wr2.drewN nq).cell? ⟨blk, off + t, none⟩ = some (.int .i64 dk[t]!) := hcw2
            have hfw3 : ∀ t, t < d.size → (wr2.drewN nq).frozen? ⟨blk, off + t, none⟩ = false := hfw2
            have A3 : Aside (wr2.drewN nq = putRow encI (Sort.ahead w (n + nq1 + nq)) blk off dk) := drewN_world encI A2.out nq
            clear hcw2 hfw2 A2
            generalize wr2.drewN nq = wr3 at hcw3 hfw3 A3 ⊢
            go_region
            go_wp2
            go_roundg (hi - (2 * root + 1))
            case measure => omega
            case rel =>
              refine ⟨2 * root + 1, swp dk (first + root) (first + (2 * root + 1)), n + nq1 + nq + 1, by simp <;> omega, by omega, Nat.le_refl _, by rw [size_swp]; exact hds, swap_world encI (by omega) (by omega) A3.out rfl rfl, ?_⟩
              rw [← heq, sd_left_go ltInt dk (by omega) (fun _ => hL) hG]
      · -- THERE IS NO RIGHT CHILD
        have h1z : decide (2 * (root : Int) + 1 + 1 < (hi : Int)) = false := decide_eq_false (by omega)      -- (a guard that is FALSE: said so outright: from '¬ ..' the walk did not decide it)
        go_wp2_with fail
        go_big_quiet (first | (go_at_call 113; refine Calls.quiet_of_same (Z.cmp_Less_int _ _ _)))
        go_wp2_with fail
        revert nq; intro nq1      -- (the next quiet region brings an 'nq' of its own)
        have hcw2 : ∀ t, t < d.size → (wr.drewN nq1).cell? ⟨blk, off + t, none⟩ = some (.int .i64 dk[t]!) := hcw
        have hfw2 : ∀ t, t < d.size → (wr.drewN nq1).frozen? ⟨blk, off + t, none⟩ = false := hfw
        have A2 : Aside (wr.drewN nq1 = putRow encI (Sort.ahead w (n + nq1)) blk off dk) := drewN_world encI A.out nq1
        clear hcw hfw A
        generalize wr.drewN nq1 = wr2 at hcw2 hfw2 A2 ⊢
        go_big_quiet (first | (go_at_call 113; refine Calls.quiet_of_same (Z.cmp_Less_int _ _ _)))
        go_wp2_with fail
        · -- the hole is not less than the greater child: return
          have hS : ltInt dk[first + root]! dk[first + 2 * root + 1]! = false := by
            have : (!ltInt dk[first + root]! dk[first + 2 * root + 1]!) = true := by assumption
            simpa using this
          (try simp only [Exit.inBlock, Exit.then]); refine bodyPost_ret (results_none rfl _ _ _) rfl ?_      -- (an explicit 'return' of a function without results)
          refine ⟨rfl, n + nq1 + nq, ?_⟩
          rw [drewN_world encI A2.out nq, ← heq, sd_left_stop ltInt dk (by omega) (fun h => absurd h h1) hS]
        · -- it is: they are swapped, and the hole goes down
          have hG : ltInt dk[first + root]! dk[first + 2 * root + 1]! = true := by
            have : (!ltInt dk[first + root]! dk[first + 2 * root + 1]!) = false := by assumption
            simpa using this
          have hcw3 : ∀ t, t < d.size → (wr2.drewN nq).cell? ⟨blk, off + t, none⟩ = some (.int .i64 dk[t]!) := hcw2
          have hfw3 : ∀ t, t < d.size → (wr2.drewN nq).frozen? ⟨blk, off + t, none⟩ = false := hfw2
          have A3 : Aside (wr2.drewN nq = putRow encI (Sort.ahead w (n + nq1 + nq)) blk off dk) := drewN_world encI A2.out nq
          clear hcw2 hfw2 A2
          generalize wr2.drewN nq = wr3 at hcw3 hfw3 A3 ⊢
          go_region
          go_wp2
          go_roundg (hi - (2 * root + 1))
          case measure => omega
          case rel =>
            refine ⟨2 * root + 1, swp dk (first + root) (first + (2 * root + 1)), n + nq1 + nq + 1, by simp <;> omega, by omega, Nat.le_refl _, by rw [size_swp]; exact hds, swap_world encI (by omega) (by omega) A3.out rfl rfl, ?_⟩
            rw [← heq, sd_left_go ltInt dk (by omega) (fun h => absurd h h1) hG]
variable {α : Type} [Inhabited α] (lt : α → α → Bool)
theorem size_siftDown (hi F : Nat) : ∀ (n root : Nat) (d : Array α), hi - root ≤ n → (siftDown lt hi F root d).size = d.size := by
  intro n
  induction n with
  | zero => intro root d h; rw [siftDown, dif_pos (by omega)]
  | succ n ih =>
    intro root d h
    rw [siftDown]
    split
    · rfl
    · split
      · split
        · rfl
        · split
          · rw [ih _ _ (by omega), size_swp]
          · rfl
      · split
        · rfl
        · rw [ih _ _ (by omega), size_swp]
/-- Go's '(hi - 1) / 2' rounds toward zero: at hi = 0 it is 0. -/
theorem half_start {a b : Nat} (hab : a ≤ b) : ((b : Int) - (a : Int) - 1).tdiv 2 = (((b - a - 1) / 2 + 1 : Nat) : Int) - 1 := by
  by_cases h : a = b
  · subst h
    have : ((a : Int) - (a : Int) - 1) = -1 := by omega
    rw [this]
    simp
  · rw [Int.tdiv_eq_ediv_of_nonneg (by omega)]
    omega
set_option maxHeartbeats 3200000 in
set_option maxRecDepth 1000000 in
theorem Z.heapSort_int (blk off len cap : Nat) (d : Array Int) (hlen : d.size = len) (a b : Nat) (w : World) (hH : Holds encI w blk off d) (hab : a ≤ b) (hb : b ≤ d.size) (hsz : d.size < 4611686018427387904) :
    Calls Tryz.prog 108 #[.slice (some ⟨blk, off, none⟩) len cap, .int .i64 a, .int .i64 b] w fun e w' => e = .returned (.tuple #[]) ∧ ∃ n, w' = putRow encI (Sort.ahead w n) blk off (heapSort ltInt d a b) := by
  subst hlen
  have ecast : ((b - a : Nat) : Int) = (b : Int) - (a : Int) := by omega
  go_enter Tryz.func108, Tryz.ntmps108
  go_wp2
  go_loopg [9] ((b - a - 1) / 2 + 1) (fun k s9 wr => s9 = .int .i64 ((k : Int) - 1) ∧ k ≤ (b - a - 1) / 2 + 1 ∧ ∃ (dk : Array Int) (n : Nat), dk.size = d.size ∧ wr = putRow encI (Sort.ahead w n) blk off dk ∧
    heapBuild ltInt (b - a) a k dk = heapBuild ltInt (b - a) a ((b - a - 1) / 2 + 1) d)
  case atStart => exact ⟨by rw [half_start hab], Nat.le_refl _, d, 0, rfl, (putRow_self encI w blk off d hH).symm, rfl⟩
  case round =>
    obtain ⟨rfl, hkk, dk, n, hds, hwr, heq⟩ := hrel
    have hHk : Holds encI wr blk off dk := by rw [hwr]; exact holds_putRow encI _ blk off d dk (holds_ahead encI w n blk off d hH) hds
    have A : Aside (wr = putRow encI (Sort.ahead w n) blk off dk) := hwr
    clear hwr
    cases gk with
    | zero =>
      -- THE HEAP IS BUILT; NOW THE GREATEST IS TAKEN OFF, TIME AND AGAIN
      have hB : dk = heapBuild ltInt (b - a) a ((b - a - 1) / 2 + 1) d := heq
      clear heq hHk hkk
      go_wp2
      go_loopg [10] (b - a) (fun k s10 wr2 => s10 = .int .i64 ((k : Int) - 1) ∧ k ≤ b - a ∧ ∃ (dj : Array Int) (n2 : Nat), dj.size = d.size ∧ wr2 = putRow encI (Sort.ahead w n2) blk off dj ∧ heapPop ltInt a k dj = heapPop ltInt a (b - a) dk)
      case atStart => exact ⟨by rw [ecast], Nat.le_refl _, dk, n, hds, A.out, rfl⟩
      case round =>
        obtain ⟨rfl, hkk, dj, n2, hdj, hwr2, heq2⟩ := hrel
        cases gk with
        | zero =>
          go_wp2
          go_end0
          refine ⟨rfl, n2, ?_⟩
          have e : dj = heapSort ltInt d a b := by rw [heapSort, ← hB, ← heq2]; rfl
          rw [← e]
        | succ k =>
          have hHj : Holds encI wr blk off dj := by rw [hwr2]; exact holds_putRow encI _ blk off d dj (holds_ahead encI w n2 blk off d hH) hdj
          have hcw : ∀ t, t < d.size → wr.cell? ⟨blk, off + t, none⟩ = some (.int .i64 dj[t]!) := fun t ht => (hHj t (by omega)).1
          have hfw : ∀ t, t < d.size → wr.frozen? ⟨blk, off + t, none⟩ = false := fun t ht => (hHj t (by omega)).2
          have A2 : Aside (wr = putRow encI (Sort.ahead w n2) blk off dj) := hwr2
          clear hwr2 hHj
          -- ✋ AT THE LAST ROUND (i = 0) 'data[first]' AND 'data[first+i]' ARE ONE CELL: the walk cannot tell whether the second store hits the cell just written: PART AHEAD OF THE REGION
          rcases Nat.eq_zero_or_pos k with hk0 | hkp
          · subst hk0
            go_wp2_with fail
            go_region
            go_wp2_with fail
            rw [swap_world encI (i := a) (j := a) (by omega) (by omega) A2.out rfl rfl]
            refine (Z.siftDown_int blk off d.size cap (swp dj a (a)) (by rw [size_swp]; exact hdj) 0 0 a _ (holds_putRow encI _ blk off d _ (holds_ahead encI w (n2 + 1) blk off d hH) (by rw [size_swp]; exact hdj)) (Nat.zero_le _) (by rw [size_swp]; omega) (by rw [size_swp]; omega)).mono ?_
            rintro e w1 ⟨rfl, m, hw1⟩
            go_wp2
            go_roundg 0
            case measure => omega
            case rel =>
              refine ⟨by simp, by omega, siftDown ltInt 0 a 0 (swp dj a (a)), n2 + 1 + m, by rw [size_siftDown ltInt _ _ _ _ _ (Nat.le_refl _), size_swp]; exact hdj, ?_, heq2⟩
              first
                | rw [hw1, putRow_ahead_putRow encI w (n2 + 1) m blk off _ _ (size_siftDown ltInt _ _ _ _ _ (Nat.le_refl _))]
                | rw [putRow_ahead_putRow encI w (n2 + 1) m blk off _ _ (size_siftDown ltInt _ _ _ _ _ (Nat.le_refl _))]
          · skip
            go_wp2_with fail
            go_region
            go_wp2_with fail
            rw [swap_world encI (i := a) (j := a + k) (by omega) (by omega) A2.out rfl rfl]
            refine (Z.siftDown_int blk off d.size cap (swp dj a (a + k)) (by rw [size_swp]; exact hdj) 0 k a _ (holds_putRow encI _ blk off d _ (holds_ahead encI w (n2 + 1) blk off d hH) (by rw [size_swp]; exact hdj)) (Nat.zero_le _) (by rw [size_swp]; omega) (by rw [size_swp]; omega)).mono ?_
            rintro e w1 ⟨rfl, m, hw1⟩
            go_wp2
            go_roundg k
            case measure => omega
            case rel =>
              refine ⟨by simp, by omega, siftDown ltInt k a 0 (swp dj a (a + k)), n2 + 1 + m, by rw [size_siftDown ltInt _ _ _ _ _ (Nat.le_refl _), size_swp]; exact hdj, ?_, heq2⟩
              first
                | rw [hw1, putRow_ahead_putRow encI w (n2 + 1) m blk off _ _ (size_siftDown ltInt _ _ _ _ _ (Nat.le_refl _))]
                | rw [putRow_ahead_putRow encI w (n2 + 1) m blk off _ _ (size_siftDown ltInt _ _ _ _ _ (Nat.le_refl _))]
    | succ k =>
      have hcall := Z.siftDown_int blk off d.size cap dk hds k (b - a) a wr hHk (by omega) (by omega) (by omega)
      rw [ecast] at hcall
      go_wp2_with (go_at_call 123; refine hcall.mono ?_; rintro e w1 ⟨rfl, m, hw1⟩)
      go_roundg k
      case measure => omega
      case rel =>
        refine ⟨by simp, by omega, siftDown ltInt (b - a) a k dk, n + m, by rw [size_siftDown ltInt _ _ _ _ _ (Nat.le_refl _)]; exact hds, ?_, heq⟩
        rw [A.out, putRow_ahead_putRow encI w n m blk off dk _ (size_siftDown ltInt _ _ _ _ _ (Nat.le_refl _))]
end Go.Proofs.YtoippneeagaceaaGreat.Srt

