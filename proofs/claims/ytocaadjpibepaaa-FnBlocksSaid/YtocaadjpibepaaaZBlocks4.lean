/- The texts Px56 to QName, one behind the other: what functions of the program, its reference and its laws come to, the words that this takes, and what follows. No condition beyond what each theorem names. -/
import Derived.Test.YtocaadjpibepaaaZBlocks1
import Derived.Test.YtocaadjpibepaaaZBlocks3
import Derived.Test.YtocaadjpibepaaaZBlocks0
import Derived.Test.YtocaadjpibepaaaZBlocks2
-- printed by a program of this session out of the translation
namespace Go.Proofs.Ytocaadjpibepaaa.P
open Go.RowKit Go.Proofs.YtocaadjpibepaaaW.PrintWords Go.Proofs.YtocaadjpibepaaaW.PrintLast Go.Proofs.YtocaadjpibepaaaW.PrintMore
attribute [local go_sem] max2_int min2_int max_two min_two max_three min_three max_four min_four   -- for this text's walks alone
set_option linter.unusedVariables false
set_option linter.unusedSimpArgs false

/-! ### impl_PutBlock: function 6 -/
def impl_PutBlock.j0 : Nat → List (S27) → Bool → ByteArray → ByteArray → ByteArray → Option ((List (S27)) × Int)
  | 0, _, _, _, _, _ => none
  | k + 1, x0, x14, x366000, x366001, x366002 => if x14 = true then (some (([] : List (S27)), 1)) else ((impl_withBlock.f k x0 x366000 x366001 x366002).bind fun t368 => (if (t368.length : Int) > 32 then (some (([] : List (S27)), 5)) else (some (t368, 0))))
def impl_PutBlock.f (k : Nat) (l0 : List (S27)) (a1_0 : ByteArray) (a1_1 : ByteArray) (a1_2 : ByteArray) : Option ((List (S27)) × Int) := (impl_ValidBlocks.f k l0).bind fun t366 => (if t366 = true then ((impl_ValidBlock.f k a1_0 a1_1 a1_2).bind fun t367 => (impl_PutBlock.j0 k l0 (!t367) a1_0 a1_1 a1_2)) else (impl_PutBlock.j0 k l0 true a1_0 a1_1 a1_2))
theorem impl_PutBlock.mono_l : ∀ k, (∀ y0 y1 y2 y3 y4, LeO (impl_PutBlock.j0 k y0 y1 y2 y3 y4) (impl_PutBlock.j0 (k + 1) y0 y1 y2 y3 y4))
  | 0 => fun _ _ _ _ _ r h => by simp [impl_PutBlock.j0] at h
  | k + 1 => by
    have ih0 := impl_PutBlock.mono_l k
    · intro y0 y1 y2 y3 y4
      unfold impl_PutBlock.j0
      repeat' first
      | (with_reducible exact ih0 _ _ _ _ _)
      | (with_reducible exact impl_ValidBlock.mono _ _ _ _)
      | (with_reducible exact impl_ValidBlocks.mono _ _)
      | (with_reducible exact impl_withBlock.mono _ _ _ _ _)
      | (with_reducible exact LeO.refl _)
      | (with_reducible exact LeO.none _)
      | (with_reducible refine LeO.ite ?_ ?_)
      | (with_reducible refine LeO.bind ?_ (fun _ => ?_))
      | exact ih0 _ _ _ _ _
      | exact impl_ValidBlock.mono _ _ _ _
      | exact impl_ValidBlocks.mono _ _
      | exact impl_withBlock.mono _ _ _ _ _
      | exact LeO.none _
      | refine LeO.ite ?_ ?_
      | refine LeO.bind ?_ (fun _ => ?_)
theorem impl_PutBlock.mono : ∀ a0 a1 a2 a3 k, LeO (impl_PutBlock.f k a0 a1 a2 a3) (impl_PutBlock.f (k + 1) a0 a1 a2 a3) := by
  intro a0 a1 a2 a3 k
  have ih0 := impl_PutBlock.mono_l k
  unfold impl_PutBlock.f
  repeat' first
      | (with_reducible exact ih0 _ _ _ _ _)
      | (with_reducible exact impl_ValidBlock.mono _ _ _ _)
      | (with_reducible exact impl_ValidBlocks.mono _ _)
      | (with_reducible exact impl_withBlock.mono _ _ _ _ _)
      | (with_reducible exact LeO.refl _)
      | (with_reducible exact LeO.none _)
      | (with_reducible refine LeO.ite ?_ ?_)
      | (with_reducible refine LeO.bind ?_ (fun _ => ?_))
      | exact ih0 _ _ _ _ _
      | exact impl_ValidBlock.mono _ _ _ _
      | exact impl_ValidBlocks.mono _ _
      | exact impl_withBlock.mono _ _ _ _ _
      | exact LeO.none _
      | refine LeO.ite ?_ ?_
      | refine LeO.bind ?_ (fun _ => ?_)
set_option maxHeartbeats 8000000 in
set_option maxRecDepth 100000 in
theorem impl_PutBlock.calls (k : Nat) (A0 : Option Addr) (c0 : Nat) (l0 : List (S27)) (a1_0 : ByteArray) (a1_1 : ByteArray) (a1_2 : ByteArray) (r1 : List (S27)) (r2 : Int) (w : World) (hr0 : Kd.C k27 w A0 l0.length l0) (hc0 : l0.length ≤ c0) (h : impl_PutBlock.f k l0 a1_0 a1_1 a1_2 = some (r1, r2)) :
    Calls Try.prog 6 #[.slice A0 l0.length c0, .agg #[.string a1_0, .string a1_1, .string a1_2]] w fun e w' => ∃ v0_ : Value, e = .returned (.tuple #[v0_, .int .i64 r2]) ∧ Kd.R k27 27 w' w.heap.size (fun _ => True) v0_ r1 ∧ Below w.heap.size w w' := by
  have hu27 := Try.underlying27
  have HR0 := Aside0.mk hr0
  have HC0 := Aside0.mk hc0
  clear hr0 hc0
  have HB := Aside0.mk (Below.refl w.heap.size w)
  have H : ((impl_ValidBlocks.f k l0).bind fun t366 => (if t366 = true then ((impl_ValidBlock.f k a1_0 a1_1 a1_2).bind fun t367 => (impl_PutBlock.j0 k l0 (!t367) a1_0 a1_1 a1_2)) else (impl_PutBlock.j0 k l0 true a1_0 a1_1 a1_2))) = some (r1, r2) := h
  clear h
  have HC3 := Aside0.mk H
  clear H
  go_enter Try.func6, Try.ntmps6
  go_upto_region 1 with (first | ((with_reducible refine gate_dst (N := 3) rfl ?_); refine box_event ?hg (N := 3) ?hd (cs := #[.string a1_0, .string a1_1, .string a1_2]) (t := 27) ?hr ?_; (case hd => rfl); (case hg => rfl); (case hr => first | (go_simp; done) | (go_simp; rfl)); intro gb365 hg w4 hbox hb; have n0_ := Aside0.mk (below_step (by repeat (first | (with_reducible first | exact HB.out | apply below_alloc | apply pw_below_drewN | apply below_drew1) | exact HB.out)) hb); have n1_ := Aside0.mk (hbox); have n2_ := Aside0.mk ((by rw [hg]; exact (below_size (by repeat (first | (with_reducible first | exact HB.out | apply below_alloc | apply pw_below_drewN | apply below_drew1) | exact HB.out))) : w.heap.size ≤ gb365)); have n3_ := Aside0.mk ((by rw [hg]; exact (below_size (by repeat (first | (with_reducible first | exact HB.out | apply below_alloc | apply pw_below_drewN | apply below_drew1) | exact HB.out))) : w.heap.size ≤ gb365)); clear HB; have HB := n0_; have BK365 := n1_; have GW365 := n2_; have GE365 := n3_; clear n0_ n1_ n2_ n3_; clear hb hbox hg))
  (try simp only [Act.put, List.setIfInBounds_toArray, List.set_cons_zero, List.set_cons_succ])
  go_cut [14] (fun v14 wc => ∃ (kq : Nat) (x14_2 : Bool), v14 = .bool x14_2 ∧ Aside0 (impl_PutBlock.j0 kq l0 x14_2 a1_0 a1_1 a1_2 = some (r1, r2)) ∧ Aside0 (kq ≤ k) ∧ Aside0 (wc.heap[gb365]? = some (.cells #[.string a1_0, .string a1_1, .string a1_2] 27 (0, 0))) ∧ Aside0 (Below w.heap.size w wc))
  case first =>
    have H := HC3.out
    clear HC3
    replace H := Option.bind_eq_some_iff.mp H
    obtain ⟨t366, A50, H⟩ := H
    replace H : (if t366 = true then ((impl_ValidBlock.f k a1_0 a1_1 a1_2).bind fun t367 => (impl_PutBlock.j0 k l0 (!t367) a1_0 a1_1 a1_2)) else (impl_PutBlock.j0 k l0 true a1_0 a1_1 a1_2)) = some (r1, r2) := H
    have A5 := Aside0.mk A50
    clear A50
    by_cases c6 : t366 = true
    · subst c6
      have H1 : ((impl_ValidBlock.f k a1_0 a1_1 a1_2).bind fun t367 => (impl_PutBlock.j0 k l0 (!t367) a1_0 a1_1 a1_2)) = some (r1, r2) := by rw [if_pos rfl] at H; exact H
      clear H
      have H := H1
      clear H1
      replace H := Option.bind_eq_some_iff.mp H
      obtain ⟨t367, A70, H⟩ := H
      replace H : (impl_PutBlock.j0 k l0 (!t367) a1_0 a1_1 a1_2) = some (r1, r2) := H
      have A7 := Aside0.mk A70
      clear A70
      have H' := Aside0.mk H
      clear H
      go_wp2_with (first | ((with_reducible refine gate_callee (f := 15) rfl ?_); refine goesL_ (some 8) rfl rfl Try.func15 (by kernel_rfl) rfl #[.slice A0 l0.length c0] rfl (by (try simp only [List.map_toArray, List.map_cons, List.map_nil]); first | done | rfl | (simp only [List.length_drop, List.length_take]; rfl)) ?_; (with_reducible refine (impl_ValidBlocks.calls k _ _ l0 true _ ?side1 ?side2 A5.out).mono ?_); (case side1 => repeat (first | exact (Kd.C_below HR0.out HB.out) | (with_reducible refine Kd.C_alloc ?_ _) | (with_reducible refine Kd.C_drewN ?_ _) | (with_reducible refine Kd.C_drew ?_))); (case side2 => exact HC0.out); rintro e w8 ⟨rfl, hb⟩; refine ⟨_, rfl, ?_⟩; have n0_ := Aside0.mk (blk_below (g := gb365) (o := .cells #[.string a1_0, .string a1_1, .string a1_2] 27 (0, 0)) (by (with_reducible repeat (first | refine blk_drewN ?_ _ | refine blk_drew ?_ | refine blk_alloc ?_ _)); exact BK365.out) hb); have n1_ := Aside0.mk (below_step (by repeat (first | (with_reducible first | exact HB.out | apply below_alloc | apply pw_below_drewN | apply below_drew1 | refine below_set ?_ GE365.out) | exact HB.out)) hb); clear BK365; clear HB; have BK365 := n0_; have HB := n1_; clear n0_ n1_; (try clear hb); (try clear hb2); (try clear hk); (try clear hi); have hcz9_0 : w8.cell? ⟨gb365, 0, none⟩ = some (.string a1_0) := (blk_cell BK365.out 0).trans rfl; have hcz9_1 : w8.cell? ⟨gb365, 1, none⟩ = some (.string a1_1) := (blk_cell BK365.out 1).trans rfl; have hcz9_2 : w8.cell? ⟨gb365, 2, none⟩ = some (.string a1_2) := (blk_cell BK365.out 2).trans rfl; have hfz9_0 := blk_frozen BK365.out 0; have hfz9_1 := blk_frozen BK365.out 1; have hfz9_2 := blk_frozen BK365.out 2) | (go_at_call 16; (with_reducible refine (impl_ValidBlock.calls k a1_0 a1_1 a1_2 t367 _ A7.out).mono ?_); rintro e w10 ⟨rfl, hb⟩; have n0_ := Aside0.mk (blk_below (g := gb365) (o := .cells #[.string a1_0, .string a1_1, .string a1_2] 27 (0, 0)) (by (with_reducible repeat (first | refine blk_drewN ?_ _ | refine blk_drew ?_ | refine blk_alloc ?_ _)); exact BK365.out) hb); have n1_ := Aside0.mk (below_step (by repeat (first | (with_reducible first | exact HB.out | apply below_alloc | apply pw_below_drewN | apply below_drew1 | refine below_set ?_ GE365.out) | exact HB.out)) hb); clear BK365; clear HB; have BK365 := n0_; have HB := n1_; clear n0_ n1_; (try clear hb); (try clear hb2); (try clear hk); (try clear hi)))
      go_meet
      case rel => exact ⟨_, (!t367), (by first | rfl | (simp; done) | (simp [*]; done)), H', ⟨by first | omega | exact Nat.le_refl _⟩, ⟨by (with_reducible repeat (first | refine blk_drewN ?_ _ | refine blk_drew ?_ | refine blk_alloc ?_ _)); exact BK365.out⟩, ⟨by repeat (first | (with_reducible first | exact HB.out | apply below_alloc | apply pw_below_drewN | apply below_drew1 | refine below_set ?_ GE365.out) | exact HB.out)⟩⟩
    · replace c6 := Bool.eq_false_iff.mpr c6
      subst c6
      have H1 : (impl_PutBlock.j0 k l0 true a1_0 a1_1 a1_2) = some (r1, r2) := by rw [if_neg (show ¬ (false = true) by decide)] at H; exact H
      clear H
      have H := H1
      clear H1
      have H' := Aside0.mk H
      clear H
      go_wp2_with (first | ((with_reducible refine gate_callee (f := 15) rfl ?_); refine goesL_ (some 8) rfl rfl Try.func15 (by kernel_rfl) rfl #[.slice A0 l0.length c0] rfl (by (try simp only [List.map_toArray, List.map_cons, List.map_nil]); first | done | rfl | (simp only [List.length_drop, List.length_take]; rfl)) ?_; (with_reducible refine (impl_ValidBlocks.calls k _ _ l0 false _ ?side1 ?side2 A5.out).mono ?_); (case side1 => repeat (first | exact (Kd.C_below HR0.out HB.out) | (with_reducible refine Kd.C_alloc ?_ _) | (with_reducible refine Kd.C_drewN ?_ _) | (with_reducible refine Kd.C_drew ?_))); (case side2 => exact HC0.out); rintro e w11 ⟨rfl, hb⟩; refine ⟨_, rfl, ?_⟩; have n0_ := Aside0.mk (blk_below (g := gb365) (o := .cells #[.string a1_0, .string a1_1, .string a1_2] 27 (0, 0)) (by (with_reducible repeat (first | refine blk_drewN ?_ _ | refine blk_drew ?_ | refine blk_alloc ?_ _)); exact BK365.out) hb); have n1_ := Aside0.mk (below_step (by repeat (first | (with_reducible first | exact HB.out | apply below_alloc | apply pw_below_drewN | apply below_drew1 | refine below_set ?_ GE365.out) | exact HB.out)) hb); clear BK365; clear HB; have BK365 := n0_; have HB := n1_; clear n0_ n1_; (try clear hb); (try clear hb2); (try clear hk); (try clear hi)))
      go_meet
      case rel => exact ⟨_, (true), (by first | rfl | (simp; done) | (simp [*]; done)), H', ⟨by first | omega | exact Nat.le_refl _⟩, ⟨by (with_reducible repeat (first | refine blk_drewN ?_ _ | refine blk_drew ?_ | refine blk_alloc ?_ _)); exact BK365.out⟩, ⟨by repeat (first | (with_reducible first | exact HB.out | apply below_alloc | apply pw_below_drewN | apply below_drew1 | refine below_set ?_ GE365.out) | exact HB.out)⟩⟩
  case rest =>
    clear HC3
    try clear c1
    try clear p2
    try clear c6
    try clear hcz9_0
    try clear hcz9_1
    try clear hcz9_2
    try clear hfz9_0
    try clear hfz9_1
    try clear hfz9_2
    obtain ⟨kq, x14_2, rfl, HA, HJ2, BK365, HB⟩ := hcut
    cases kq with
    | zero => exact absurd HA.out (by simp [impl_PutBlock.j0])
    | succ kj2 =>
      have H := HA.out
      clear HA
      simp only [impl_PutBlock.j0] at H
      by_cases c12 : x14_2 = true
      · subst c12
        have H1 : (some (([] : List (S27)), 1)) = some (r1, r2) := by rw [if_pos rfl] at H; exact H
        clear H
        have H := H1
        clear H1
        simp only [Option.some.injEq, Prod.mk.injEq] at H
        obtain ⟨rfl, rfl⟩ := H
        go_wp2
        go_ret2
        exact ⟨_, by first | rfl | (simp [errW_none, errW_some] <;> rfl) | (simp [*, errW_none, errW_some] <;> rfl), by first | exact Kd.R_nil _ _ _ _ _ | exact Kd.N_nil _ _ _ _ _ | exact Kd.V_nil _ _ _ _ _ | exact Kd.Q_nil _ _ _ _ _ | exact Kd.S_nil _ _ _ _ _, by repeat (first | (with_reducible first | exact HB.out | apply below_alloc | apply pw_below_drewN | apply below_drew1 | refine below_set ?_ GE365.out) | exact HB.out)⟩
      · replace c12 := Bool.eq_false_iff.mpr c12
        subst c12
        have H1 : ((impl_withBlock.f kj2 l0 a1_0 a1_1 a1_2).bind fun t368 => (if (t368.length : Int) > 32 then (some (([] : List (S27)), 5)) else (some (t368, 0)))) = some (r1, r2) := by rw [if_neg (show ¬ (false = true) by decide)] at H; exact H
        clear H
        have H := H1
        clear H1
        replace H := Option.bind_eq_some_iff.mp H
        obtain ⟨t368, A130, H⟩ := H
        replace H : (if (t368.length : Int) > 32 then (some (([] : List (S27)), 5)) else (some (t368, 0))) = some (r1, r2) := H
        have A13 := Aside0.mk A130
        clear A130
        by_cases c14 : (t368.length : Int) > 32
        · rw [if_pos c14] at H
          have c14b0 : decide (32 < (t368.length : Int)) = true := decide_eq_true c14
          have c14b1 : decide (32 < t368.length) = true := decide_eq_true (by omega)
          clear c14
          simp only [Option.some.injEq, Prod.mk.injEq] at H
          obtain ⟨rfl, rfl⟩ := H
          have hcz15_0 : wc.cell? ⟨gb365, 0, none⟩ = some (.string a1_0) := (blk_cell BK365.out 0).trans rfl
          have hcz15_1 : wc.cell? ⟨gb365, 1, none⟩ = some (.string a1_1) := (blk_cell BK365.out 1).trans rfl
          have hcz15_2 : wc.cell? ⟨gb365, 2, none⟩ = some (.string a1_2) := (blk_cell BK365.out 2).trans rfl
          have hfz15_0 := blk_frozen BK365.out 0
          have hfz15_1 := blk_frozen BK365.out 1
          have hfz15_2 := blk_frozen BK365.out 2
          go_wp2_with (first | ((with_reducible refine gate_callee (f := 17) rfl ?_); refine goesL_ (some 17) rfl rfl Try.func17 (by kernel_rfl) rfl #[.slice A0 l0.length c0, .agg #[.string a1_0, .string a1_1, .string a1_2]] rfl (by (try simp only [List.map_toArray, List.map_cons, List.map_nil]); first | done | rfl | (simp only [List.length_drop, List.length_take]; rfl)) ?_; (with_reducible refine (impl_withBlock.calls kj2 _ _ l0 a1_0 a1_1 a1_2 t368 _ ?side1 ?side2 A13.out).mono ?_); (case side1 => repeat (first | exact (Kd.C_below HR0.out HB.out) | (with_reducible refine Kd.C_alloc ?_ _) | (with_reducible refine Kd.C_drewN ?_ _) | (with_reducible refine Kd.C_drew ?_))); (case side2 => exact HC0.out); rintro e w16 ⟨v369, rfl, ho0, hb⟩; refine ⟨_, rfl, ?_⟩; have n0_ := Aside0.mk (Kd.R_lower (Kd.R_newB ho0 (g := gb365) (o := .cells #[.string a1_0, .string a1_1, .string a1_2] 27 (0, 0)) (by (with_reducible repeat (first | refine blk_drewN ?_ _ | refine blk_drew ?_ | refine blk_alloc ?_ _)); exact BK365.out)) (below_size (by repeat (first | (with_reducible first | exact HB.out | apply below_alloc | apply pw_below_drewN | apply below_drew1 | refine below_set ?_ GE365.out) | exact HB.out)))); have n1_ := Aside0.mk (blk_below (g := gb365) (o := .cells #[.string a1_0, .string a1_1, .string a1_2] 27 (0, 0)) (by (with_reducible repeat (first | refine blk_drewN ?_ _ | refine blk_drew ?_ | refine blk_alloc ?_ _)); exact BK365.out) hb); have n2_ := Aside0.mk (below_step (by repeat (first | (with_reducible first | exact HB.out | apply below_alloc | apply pw_below_drewN | apply below_drew1 | refine below_set ?_ GE365.out) | exact HB.out)) hb); clear BK365; clear HB; have HO370 := n0_; have BK365 := n1_; have HB := n2_; clear n0_ n1_ n2_; (try clear hb); (try clear hb2); (try clear hk); (try clear hi); (try clear ho0); obtain ⟨Ao17, co17, eo17⟩ := Kd.R_slice HO370.out; subst eo17))
          go_ret2
          exact ⟨_, by first | rfl | (simp [errW_none, errW_some] <;> rfl) | (simp [*, errW_none, errW_some] <;> rfl), by first | exact Kd.R_nil _ _ _ _ _ | exact Kd.N_nil _ _ _ _ _ | exact Kd.V_nil _ _ _ _ _ | exact Kd.Q_nil _ _ _ _ _ | exact Kd.S_nil _ _ _ _ _, by repeat (first | (with_reducible first | exact HB.out | apply below_alloc | apply pw_below_drewN | apply below_drew1 | refine below_set ?_ GE365.out) | exact HB.out)⟩
        · rw [if_neg c14] at H
          have c14b0 : decide (32 < (t368.length : Int)) = false := decide_eq_false c14
          have c14b1 : decide (32 < t368.length) = false := decide_eq_false (by omega)
          clear c14
          simp only [Option.some.injEq, Prod.mk.injEq] at H
          obtain ⟨rfl, rfl⟩ := H
          have hcz18_0 : wc.cell? ⟨gb365, 0, none⟩ = some (.string a1_0) := (blk_cell BK365.out 0).trans rfl
          have hcz18_1 : wc.cell? ⟨gb365, 1, none⟩ = some (.string a1_1) := (blk_cell BK365.out 1).trans rfl
          have hcz18_2 : wc.cell? ⟨gb365, 2, none⟩ = some (.string a1_2) := (blk_cell BK365.out 2).trans rfl
          have hfz18_0 := blk_frozen BK365.out 0
          have hfz18_1 := blk_frozen BK365.out 1
          have hfz18_2 := blk_frozen BK365.out 2
          go_wp2_with (first | ((with_reducible refine gate_callee (f := 17) rfl ?_); refine goesL_ (some 17) rfl rfl Try.func17 (by kernel_rfl) rfl #[.slice A0 l0.length c0, .agg #[.string a1_0, .string a1_1, .string a1_2]] rfl (by (try simp only [List.map_toArray, List.map_cons, List.map_nil]); first | done | rfl | (simp only [List.length_drop, List.length_take]; rfl)) ?_; (with_reducible refine (impl_withBlock.calls kj2 _ _ l0 a1_0 a1_1 a1_2 t368 _ ?side1 ?side2 A13.out).mono ?_); (case side1 => repeat (first | exact (Kd.C_below HR0.out HB.out) | (with_reducible refine Kd.C_alloc ?_ _) | (with_reducible refine Kd.C_drewN ?_ _) | (with_reducible refine Kd.C_drew ?_))); (case side2 => exact HC0.out); rintro e w19 ⟨v369, rfl, ho0, hb⟩; refine ⟨_, rfl, ?_⟩; have n0_ := Aside0.mk (Kd.R_lower (Kd.R_newB ho0 (g := gb365) (o := .cells #[.string a1_0, .string a1_1, .string a1_2] 27 (0, 0)) (by (with_reducible repeat (first | refine blk_drewN ?_ _ | refine blk_drew ?_ | refine blk_alloc ?_ _)); exact BK365.out)) (below_size (by repeat (first | (with_reducible first | exact HB.out | apply below_alloc | apply pw_below_drewN | apply below_drew1 | refine below_set ?_ GE365.out) | exact HB.out)))); have n1_ := Aside0.mk (blk_below (g := gb365) (o := .cells #[.string a1_0, .string a1_1, .string a1_2] 27 (0, 0)) (by (with_reducible repeat (first | refine blk_drewN ?_ _ | refine blk_drew ?_ | refine blk_alloc ?_ _)); exact BK365.out) hb); have n2_ := Aside0.mk (below_step (by repeat (first | (with_reducible first | exact HB.out | apply below_alloc | apply pw_below_drewN | apply below_drew1 | refine below_set ?_ GE365.out) | exact HB.out)) hb); clear BK365; clear HB; have HO370 := n0_; have BK365 := n1_; have HB := n2_; clear n0_ n1_ n2_; (try clear hb); (try clear hb2); (try clear hk); (try clear hi); (try clear ho0); obtain ⟨Ao20, co20, eo20⟩ := Kd.R_slice HO370.out; subst eo20))
          go_ret2
          exact ⟨_, by first | rfl | (simp [errW_none, errW_some] <;> rfl) | (simp [*, errW_none, errW_some] <;> rfl), by (with_reducible repeat (first | apply Kd.R_alloc | apply Kd.R_drewN | apply Kd.R_drew)); exact Kd.R_mono HO370.out (fun _ hk => trivial), by repeat (first | (with_reducible first | exact HB.out | apply below_alloc | apply pw_below_drewN | apply below_drew1 | refine below_set ?_ GE365.out) | exact HB.out)⟩

end Go.Proofs.Ytocaadjpibepaaa.P

-- printed by a program of this session out of the translation
namespace Go.Proofs.Ytocaadjpibepaaa.P
open Go.RowKit Go.Proofs.YtocaadjpibepaaaW.PrintWords Go.Proofs.YtocaadjpibepaaaW.PrintLast Go.Proofs.YtocaadjpibepaaaW.PrintMore
attribute [local go_sem] max2_int min2_int max_two min_two max_three min_three max_four min_four   -- for this text's walks alone
set_option linter.unusedVariables false
set_option linter.unusedSimpArgs false

/-! ### impl_BlockNamed: function 7 -/
def impl_BlockNamed.f (k : Nat) (l0 : List (S27)) (a1 : ByteArray) (a2 : ByteArray) : Option (ByteArray × Int) := (impl_ValidBlocks.f k l0).bind fun t371 => (if t371 = true then ((impl_Block_18_at_impl_compareBlocks.f k l0 a1 a2 (⟨#[]⟩ : ByteArray)).bind fun bt372 => (if bt372.2 = true then (if 0 ≤ bt372.1 then (if bt372.1 < (l0.length : Int) then (some ((rd_T27 l0 bt372.1).f2, 0)) else (none)) else (none)) else (some ((⟨#[]⟩ : ByteArray), 3)))) else (some ((⟨#[]⟩ : ByteArray), 1)))
theorem impl_BlockNamed.mono : ∀ a0 a1 a2 k, LeO (impl_BlockNamed.f k a0 a1 a2) (impl_BlockNamed.f (k + 1) a0 a1 a2) := by
  intro a0 a1 a2 k
  unfold impl_BlockNamed.f
  repeat' first
      | (with_reducible exact impl_Block_18_at_impl_compareBlocks.mono _ _ _ _ _)
      | (with_reducible exact impl_ValidBlocks.mono _ _)
      | (with_reducible exact LeO.refl _)
      | (with_reducible exact LeO.none _)
      | (with_reducible refine LeO.ite ?_ ?_)
      | (with_reducible refine LeO.bind ?_ (fun _ => ?_))
      | exact impl_Block_18_at_impl_compareBlocks.mono _ _ _ _ _
      | exact impl_ValidBlocks.mono _ _
      | exact LeO.none _
      | refine LeO.ite ?_ ?_
      | refine LeO.bind ?_ (fun _ => ?_)
set_option maxHeartbeats 8000000 in
set_option maxRecDepth 100000 in
theorem impl_BlockNamed.calls (k : Nat) (A0 : Option Addr) (c0 : Nat) (l0 : List (S27)) (a1 : ByteArray) (a2 : ByteArray) (r1 : ByteArray) (r2 : Int) (w : World) (hr0 : Kd.C k27 w A0 l0.length l0) (hc0 : l0.length ≤ c0) (h : impl_BlockNamed.f k l0 a1 a2 = some (r1, r2)) :
    Calls Try.prog 7 #[.slice A0 l0.length c0, .string a1, .string a2] w fun e w' => e = .returned (.tuple #[.string r1, .int .i64 r2]) ∧ Below w.heap.size w w' := by
  have hu27 := Try.underlying27
  have HR0 := Aside0.mk hr0
  have HC0 := Aside0.mk hc0
  clear hr0 hc0
  have HB := Aside0.mk (Below.refl w.heap.size w)
  have H : ((impl_ValidBlocks.f k l0).bind fun t371 => (if t371 = true then ((impl_Block_18_at_impl_compareBlocks.f k l0 a1 a2 (⟨#[]⟩ : ByteArray)).bind fun bt372 => (if bt372.2 = true then (if 0 ≤ bt372.1 then (if bt372.1 < (l0.length : Int) then (some ((rd_T27 l0 bt372.1).f2, 0)) else (none)) else (none)) else (some ((⟨#[]⟩ : ByteArray), 3)))) else (some ((⟨#[]⟩ : ByteArray), 1)))) = some (r1, r2) := h
  clear h
  replace H := Option.bind_eq_some_iff.mp H
  obtain ⟨t371, A40, H⟩ := H
  replace H : (if t371 = true then ((impl_Block_18_at_impl_compareBlocks.f k l0 a1 a2 (⟨#[]⟩ : ByteArray)).bind fun bt372 => (if bt372.2 = true then (if 0 ≤ bt372.1 then (if bt372.1 < (l0.length : Int) then (some ((rd_T27 l0 bt372.1).f2, 0)) else (none)) else (none)) else (some ((⟨#[]⟩ : ByteArray), 3)))) else (some ((⟨#[]⟩ : ByteArray), 1))) = some (r1, r2) := H
  have A4 := Aside0.mk A40
  clear A40
  by_cases c5 : t371 = true
  · subst c5
    have H1 : ((impl_Block_18_at_impl_compareBlocks.f k l0 a1 a2 (⟨#[]⟩ : ByteArray)).bind fun bt372 => (if bt372.2 = true then (if 0 ≤ bt372.1 then (if bt372.1 < (l0.length : Int) then (some ((rd_T27 l0 bt372.1).f2, 0)) else (none)) else (none)) else (some ((⟨#[]⟩ : ByteArray), 3)))) = some (r1, r2) := by rw [if_pos rfl] at H; exact H
    clear H
    have H := H1
    clear H1
    replace H := Option.bind_eq_some_iff.mp H
    obtain ⟨⟨t372, t373⟩, A60, H⟩ := H
    replace H : (if t373 = true then (if 0 ≤ t372 then (if t372 < (l0.length : Int) then (some ((rd_T27 l0 t372).f2, 0)) else (none)) else (none)) else (some ((⟨#[]⟩ : ByteArray), 3))) = some (r1, r2) := H
    have A6 := Aside0.mk A60
    clear A60
    by_cases c7 : t373 = true
    · subst c7
      have H1 : (if 0 ≤ t372 then (if t372 < (l0.length : Int) then (some ((rd_T27 l0 t372).f2, 0)) else (none)) else (none)) = some (r1, r2) := by rw [if_pos rfl] at H; exact H
      clear H
      have H := H1
      clear H1
      by_cases c8 : 0 ≤ t372
      · rw [if_pos c8] at H
        have c8b0 : decide (0 ≤ t372) = true := decide_eq_true c8
        clear c8
        by_cases c9 : t372 < (l0.length : Int)
        · rw [if_pos c9] at H
          have c9b0 : decide (t372 < (l0.length : Int)) = true := decide_eq_true c9
          clear c9
          simp only [Option.some.injEq, Prod.mk.injEq] at H
          obtain ⟨rfl, rfl⟩ := H
          go_enter Try.func7, Try.ntmps7
          go_wp2_with (first | ((with_reducible refine gate_callee (f := 15) rfl ?_); refine goesL_ (some 11) rfl rfl Try.func15 (by kernel_rfl) rfl #[.slice A0 l0.length c0] rfl (by (try simp only [List.map_toArray, List.map_cons, List.map_nil]); first | done | rfl | (simp only [List.length_drop, List.length_take]; rfl)) ?_; (with_reducible refine (impl_ValidBlocks.calls k _ _ l0 true _ ?side1 ?side2 A4.out).mono ?_); (case side1 => repeat (first | exact HR0.out | (with_reducible refine Kd.C_alloc ?_ _) | (with_reducible refine Kd.C_drewN ?_ _) | (with_reducible refine Kd.C_drew ?_))); (case side2 => exact HC0.out); rintro e w10 ⟨rfl, hb⟩; refine ⟨_, rfl, ?_⟩; have n0_ := Aside0.mk (below_step (by repeat (first | (with_reducible first | exact HB.out | apply below_alloc | apply pw_below_drewN | apply below_drew1) | exact HB.out)) hb); clear HB; have HB := n0_; clear n0_; (try clear hb); (try clear hb2); (try clear hk); (try clear hi)) | ((with_reducible refine gate_callee (f := 18) rfl ?_); refine goesL_ (some 18) rfl rfl Try.func18 (by kernel_rfl) rfl #[.slice A0 l0.length c0, .agg #[.string a1, .string a2, .string (⟨#[]⟩ : ByteArray)], .func (.func 19) #[] #[]] rfl (by (try simp only [List.map_toArray, List.map_cons, List.map_nil]); first | done | rfl | (simp only [List.length_drop, List.length_take]; rfl)) ?_; (with_reducible refine (impl_Block_18_at_impl_compareBlocks.calls k _ _ l0 a1 a2 (⟨#[]⟩ : ByteArray) t372 true _ ?side1 ?side2 A6.out).mono ?_); (case side1 => repeat (first | exact (Kd.C_below HR0.out HB.out) | (with_reducible refine Kd.C_alloc ?_ _) | (with_reducible refine Kd.C_drewN ?_ _) | (with_reducible refine Kd.C_drew ?_))); (case side2 => exact HC0.out); rintro e w11 ⟨rfl, hb⟩; refine ⟨_, rfl, ?_⟩; have n0_ := Aside0.mk (below_step (by repeat (first | (with_reducible first | exact HB.out | apply below_alloc | apply pw_below_drewN | apply below_drew1) | exact HB.out)) hb); clear HB; have HB := n0_; clear n0_; (try clear hb); (try clear hb2); (try clear hk); (try clear hi); have p374 : 0 ≤ (t372 : Int) := of_decide_eq_true (by first | (with_reducible assumption) | assumption); have q374 : t372 < (l0.length : Int) := of_decide_eq_true (by first | (with_reducible assumption) | assumption); obtain ⟨ad374, e374, hx374_0, hx374_1, hx374_2⟩ := at_T27 HR0.out t372 p374 q374; cases e374; replace hx374_0 := (HB.out.cell (World.block_lt_of_cell? w _ hx374_0)).trans hx374_0; replace hx374_1 := (HB.out.cell (World.block_lt_of_cell? w _ hx374_1)).trans hx374_1; replace hx374_2 := (HB.out.cell (World.block_lt_of_cell? w _ hx374_2)).trans hx374_2; replace p374 := eq_true p374; replace q374 := eq_true q374))
          go_ret2
          exact ⟨by first | rfl | (simp [errW_none, errW_some] <;> rfl) | (simp [*, errW_none, errW_some] <;> rfl), by repeat (first | (with_reducible first | exact HB.out | apply below_alloc | apply pw_below_drewN | apply below_drew1) | exact HB.out)⟩
        · rw [if_neg c9] at H
          exact absurd H (by simp)
      · rw [if_neg c8] at H
        exact absurd H (by simp)
    · replace c7 := Bool.eq_false_iff.mpr c7
      subst c7
      have H1 : (some ((⟨#[]⟩ : ByteArray), 3)) = some (r1, r2) := by rw [if_neg (show ¬ (false = true) by decide)] at H; exact H
      clear H
      have H := H1
      clear H1
      simp only [Option.some.injEq, Prod.mk.injEq] at H
      obtain ⟨rfl, rfl⟩ := H
      go_enter Try.func7, Try.ntmps7
      go_wp2_with (first | ((with_reducible refine gate_callee (f := 15) rfl ?_); refine goesL_ (some 11) rfl rfl Try.func15 (by kernel_rfl) rfl #[.slice A0 l0.length c0] rfl (by (try simp only [List.map_toArray, List.map_cons, List.map_nil]); first | done | rfl | (simp only [List.length_drop, List.length_take]; rfl)) ?_; (with_reducible refine (impl_ValidBlocks.calls k _ _ l0 true _ ?side1 ?side2 A4.out).mono ?_); (case side1 => repeat (first | exact HR0.out | (with_reducible refine Kd.C_alloc ?_ _) | (with_reducible refine Kd.C_drewN ?_ _) | (with_reducible refine Kd.C_drew ?_))); (case side2 => exact HC0.out); rintro e w12 ⟨rfl, hb⟩; refine ⟨_, rfl, ?_⟩; have n0_ := Aside0.mk (below_step (by repeat (first | (with_reducible first | exact HB.out | apply below_alloc | apply pw_below_drewN | apply below_drew1) | exact HB.out)) hb); clear HB; have HB := n0_; clear n0_; (try clear hb); (try clear hb2); (try clear hk); (try clear hi)) | ((with_reducible refine gate_callee (f := 18) rfl ?_); refine goesL_ (some 18) rfl rfl Try.func18 (by kernel_rfl) rfl #[.slice A0 l0.length c0, .agg #[.string a1, .string a2, .string (⟨#[]⟩ : ByteArray)], .func (.func 19) #[] #[]] rfl (by (try simp only [List.map_toArray, List.map_cons, List.map_nil]); first | done | rfl | (simp only [List.length_drop, List.length_take]; rfl)) ?_; (with_reducible refine (impl_Block_18_at_impl_compareBlocks.calls k _ _ l0 a1 a2 (⟨#[]⟩ : ByteArray) t372 false _ ?side1 ?side2 A6.out).mono ?_); (case side1 => repeat (first | exact (Kd.C_below HR0.out HB.out) | (with_reducible refine Kd.C_alloc ?_ _) | (with_reducible refine Kd.C_drewN ?_ _) | (with_reducible refine Kd.C_drew ?_))); (case side2 => exact HC0.out); rintro e w13 ⟨rfl, hb⟩; refine ⟨_, rfl, ?_⟩; have n0_ := Aside0.mk (below_step (by repeat (first | (with_reducible first | exact HB.out | apply below_alloc | apply pw_below_drewN | apply below_drew1) | exact HB.out)) hb); clear HB; have HB := n0_; clear n0_; (try clear hb); (try clear hb2); (try clear hk); (try clear hi)))
      go_ret2
      exact ⟨by first | rfl | (simp [errW_none, errW_some] <;> rfl) | (simp [*, errW_none, errW_some] <;> rfl), by repeat (first | (with_reducible first | exact HB.out | apply below_alloc | apply pw_below_drewN | apply below_drew1) | exact HB.out)⟩
  · replace c5 := Bool.eq_false_iff.mpr c5
    subst c5
    have H1 : (some ((⟨#[]⟩ : ByteArray), 1)) = some (r1, r2) := by rw [if_neg (show ¬ (false = true) by decide)] at H; exact H
    clear H
    have H := H1
    clear H1
    simp only [Option.some.injEq, Prod.mk.injEq] at H
    obtain ⟨rfl, rfl⟩ := H
    go_enter Try.func7, Try.ntmps7
    go_wp2_with (first | ((with_reducible refine gate_callee (f := 15) rfl ?_); refine goesL_ (some 11) rfl rfl Try.func15 (by kernel_rfl) rfl #[.slice A0 l0.length c0] rfl (by (try simp only [List.map_toArray, List.map_cons, List.map_nil]); first | done | rfl | (simp only [List.length_drop, List.length_take]; rfl)) ?_; (with_reducible refine (impl_ValidBlocks.calls k _ _ l0 false _ ?side1 ?side2 A4.out).mono ?_); (case side1 => repeat (first | exact HR0.out | (with_reducible refine Kd.C_alloc ?_ _) | (with_reducible refine Kd.C_drewN ?_ _) | (with_reducible refine Kd.C_drew ?_))); (case side2 => exact HC0.out); rintro e w14 ⟨rfl, hb⟩; refine ⟨_, rfl, ?_⟩; have n0_ := Aside0.mk (below_step (by repeat (first | (with_reducible first | exact HB.out | apply below_alloc | apply pw_below_drewN | apply below_drew1) | exact HB.out)) hb); clear HB; have HB := n0_; clear n0_; (try clear hb); (try clear hb2); (try clear hk); (try clear hi)))
    go_ret2
    exact ⟨by first | rfl | (simp [errW_none, errW_some] <;> rfl) | (simp [*, errW_none, errW_some] <;> rfl), by repeat (first | (with_reducible first | exact HB.out | apply below_alloc | apply pw_below_drewN | apply below_drew1) | exact HB.out)⟩

end Go.Proofs.Ytocaadjpibepaaa.P

/- slices.Delete at one element of a row of flat elements, by hand: the row without that element. No condition beyond the row's being the call's own. -/
namespace Go.Proofs.Ytocaadjpibepaaa.P
open Go.RowKit Go.Proofs.YtocaadjpibepaaaW.PrintWords Go.Proofs.YtocaadjpibepaaaW.PrintLast Go.Proofs.YtocaadjpibepaaaW.PrintMore
set_option linter.unusedVariables false
set_option linter.unusedSimpArgs false
namespace del27
def T5 : Bool × List (List Nat × List Nat) := (true, [([], []), ([], []), ([0, 1], [0, 1]), ([], []), ([], []), ([3, 4], [3, 4]), ([2, 5], [2, 5]), ([6, 6, 0, 1, 2, 3, 4, 5, 6], [0, 3, 6])])
def B5 : List Nat := [0, 0, 3, 0, 0, 24, 63, 127]
theorem tab5 : rtab .any (opsOf Try.f20 5) = T5 := by kernel_rfl
theorem bits5 : waitsOk T5.2 B5 = true := by kernel_rfl
theorem zero27_ (w : World) : (zeroValue 27).run Try.prog w = .ok (.agg #[(.string ⟨#[]⟩), (.string ⟨#[]⟩), (.string ⟨#[]⟩)]) w := by kernel_rfl
theorem one27_ : ∀ u ∈ (.agg #[(.string ⟨#[]⟩), (.string ⟨#[]⟩), (.string ⟨#[]⟩)] : Value).cells, u.oneCell' = true := by
  intro u hu
  simp [Value.cells] at hu
  subst hu
  rfl
set_option maxHeartbeats 4000000 in
set_option maxRecDepth 100000 in
theorem calls (w : World) (base g n c i : Nat) (ok : Nat → Prop) (l : List S27) (HO : Kd.R k27 27 w base ok (.slice (some ⟨g, 0, none⟩) n c) l) (hi : i < n) (hbase : base ≤ w.heap.size) :
    Calls Try.prog 20 #[.slice (some ⟨g, 0, none⟩) n c, .int .i64 (i : Int), .int .i64 ((i : Int) + 1)] w fun e w' => e = .returned (.slice (some ⟨g, 0, none⟩) (n - 1) c) ∧ Kd.R k27 27 w' base ok (.slice (some ⟨g, 0, none⟩) (n - 1) c) (l.eraseIdx i) ∧ w.grownBy w' (some g) := by
  obtain ⟨hn, hnc, hC⟩ := Kd.R_reads' HO
  subst hn
  have hmax : l.length ≤ 9223372036854775807 := by have := hC.2.1; omega
  obtain ⟨i0, hi0, hzr, hsz, hby⟩ := info_parts info27
  have c1 : ∀ W : World, (Instr.slice 24 (.slice (some ⟨g, 0, none⟩) l.length c) (some (.int .i64 (i : Int))) (some (.int .i64 ((i : Int) + 1))) (some (.int .i64 (l.length : Int)))).run Try.prog W = .ok (sliced (some ⟨g, 0, none⟩) (i : Int).toNat ((i : Int) + 1).toNat (l.length : Int).toNat 3) W := fun W => by
    have hel : Program.elem Try.prog 24 = 27 := by simp [Program.elem, Try.underlying24]
    rw [run_slice_lhm (P := Try.prog) W 24 (some ⟨g, 0, none⟩) l.length c (by rw [hel]; exact Try.underlying24) .i64 .i64 .i64 (i : Int) ((i : Int) + 1) (l.length : Int) (by omega) (by omega) (by omega) (by omega), hel]
    simp [sizeOf, typeInfo, hi0, hsz, Result.andThen]
  have c2 := cut_to (P := Try.prog) 24 27 .i64 Try.underlying24 hi0 (some ⟨g, 0, none⟩) l.length c (i : Int) (by omega) (by omega) hnc
  have c3 := cut_from (P := Try.prog) 24 27 .i64 Try.underlying24 hi0 3 hsz (some ⟨g, 0, none⟩) l.length c ((i : Int) + 1) (by omega) (by omega)
  have hne : ((i : Int) == (i : Int) + 1) = false := by simp; omega
  have hic : (i ≤ c) = True := eq_true (by omega)
  have hin1 : (i + 1 ≤ l.length) = True := eq_true (by omega)
  have hin2 : (((i : Int) + 1) ≤ (l.length : Int)) = True := eq_true (by omega)
  have hi1 : (0 ≤ (i : Int) + 1) = True := eq_true (by omega)
  have hi2 : (0 ≤ (i : Int)) = True := eq_true (by omega)
  have HO' := Aside0.mk HO
  clear HO
  go_enter Try.func20, Try.ntmps20
  go_wp2
  refine start_ (n := 8) (S := fun _ => True) (ds := [6]) #[false, false, false, false, false, false, false, false] (by kernel_rfl) rfl rfl trivial (fun hHeld => ?_); refine with_tabW tab5 bits5 (fun HT_ HW_ => ?_)
  refine pure_ (i := 0) (N := some 20) (v := ?_) (a' := ?_) #[true, false, false, false, false, false, false, false] rfl rfl (any_of HT_.out (by kernel_rfl)) (fun _ _ _ h => h) (Or.inl ⟨by rfl, ?_⟩) ?_ ?_
  rotate_left
  · intro w'
    go_simp
    with_reducible rfl
  rotate_left
  · simp only [Act.put, List.setIfInBounds_toArray, List.set_cons_zero, List.set_cons_succ, i64_w, i32_w]
    rfl
  refine pure_ (i := 1) (N := some 21) (v := ?_) (a' := ?_) #[true, true, false, false, false, false, false, false] rfl rfl (any_of HT_.out (by kernel_rfl)) (fun _ _ _ h => h) (Or.inl ⟨by rfl, ?_⟩) ?_ ?_
  rotate_left
  · intro w'
    go_simp
    with_reducible rfl
  rotate_left
  · simp only [Act.put, List.setIfInBounds_toArray, List.set_cons_zero, List.set_cons_succ, i64_w, i32_w]
    rfl
  refine pure_ (i := 2) (N := some 22) (v := ?_) (a' := ?_) #[true, true, true, false, false, false, false, false] rfl rfl (any_of HT_.out (by kernel_rfl)) (fun _ _ _ h => h) (Or.inl ⟨by rfl, ?_⟩) ?_ ?_
  rotate_left
  · intro w'
    go_simp
    with_reducible rfl
  rotate_left
  · simp only [Act.put, List.setIfInBounds_toArray, List.set_cons_zero, List.set_cons_succ, i64_w, i32_w]
    rfl
  refine pure_ (i := 3) (N := some 23) (v := ?_) (a' := ?_) #[true, true, true, true, false, false, false, false] rfl rfl (any_of HT_.out (by kernel_rfl)) (fun _ _ _ h => h) (Or.inl ⟨by rfl, ?_⟩) ?_ ?_
  rotate_left
  · intro w'
    go_simp
    with_reducible rfl
  rotate_left
  · simp only [Act.put, List.setIfInBounds_toArray, List.set_cons_zero, List.set_cons_succ, i64_w, i32_w]
    rfl
  refine pure_ (i := 4) (N := some 24) (v := ?_) (a' := ?_) #[true, true, true, true, true, false, false, false] rfl rfl (any_of HT_.out (by kernel_rfl)) (fun _ _ _ h => h) (Or.inl ⟨by rfl, ?_⟩) ?_ ?_
  rotate_left
  · intro w'
    go_simp
    with_reducible rfl
  rotate_left
  · simp only [Act.put, List.setIfInBounds_toArray, List.set_cons_zero, List.set_cons_succ, i64_w, i32_w]
    rfl
  refine pure_ (i := 5) (N := some 25) (v := ?_) (a' := ?_) #[true, true, true, true, true, true, false, false] rfl rfl (any_of HT_.out (by kernel_rfl)) (fun _ _ _ h => h) (Or.inl ⟨by rfl, ?_⟩) ?_ ?_
  rotate_left
  · intro w'
    go_simp
    with_reducible rfl
  rotate_left
  · simp only [Act.put, List.setIfInBounds_toArray, List.set_cons_zero, List.set_cons_succ, i64_w, i32_w]
    rfl
  refine last_ (i := 6) (N := some 26) #[true, true, true, true, true, true, true, false] rfl rfl (one_of HT_.out (by kernel_rfl)) (by decide) (fun K hK => ?_)
  refine Kd.R_delete_step k27 (w0 := w) base (by rfl) (.tmp 22) (.tmp 25) 24 27 rfl Try.underlying24 (by kernel_rfl) (g := g) (n := l.length) (c := c) (k := i) rfl rfl ?hA rfl (Kd.R_drew HO'.out) hi (below_drew1 (Below.refl _ _)) hbase ?_
  case hA => split <;> simp [Addr.add] <;> rfl
  intro w1 hr hb hg
  refine hK.out _ _ ?_
  clear hK K
  refine norm_ (a' := ?_) ?_ ?_
  rotate_left
  · show Act.put _ (some 26) _ = _
    simp only [Act.put, List.setIfInBounds_toArray, List.set_cons_zero, List.set_cons_succ, i64_w, i32_w]
    rfl
  refine pure_ (i := 7) (N := some 0) (v := ?_) (a' := ?_) #[true, true, true, true, true, true, true, true] rfl rfl (any_of HT_.out (by kernel_rfl)) (fun _ _ _ h => h) (Or.inl ⟨by rfl, ?_⟩) ?_ ?_
  rotate_left
  · intro w'
    go_simp
    with_reducible rfl
  rotate_left
  · simp only [Act.put, List.setIfInBounds_toArray, List.set_cons_zero, List.set_cons_succ, i64_w, i32_w]
    rfl
  refine done_ (done_of HT_.out (by kernel_rfl)) ?_
  have hle : (l.eraseIdx i).length = l.length - 1 := by rw [List.length_eraseIdx_of_lt hi]
  have hcn : (c = l.length - 1) = False := eq_false (by omega)
  have h01 : (0 ≤ ((l.length - 1 : Nat) : Int)) = True := eq_true (by omega)
  have h02 : (0 ≤ (l.length : Int)) = True := eq_true (by omega)
  have h03 : ((l.length - 1 : Nat) : Int) ≤ (l.length : Int) := by omega
  have h04 : (((l.length - 1 : Nat) : Int) ≤ (l.length : Int)) = True := eq_true h03
  have h05 : ((l.length : Int) ≤ (c : Int)) = True := eq_true (by omega)
  have h06 : (l.length ≤ c) = True := eq_true hnc
  have h07 : (l.length - 1 ≤ l.length) = True := eq_true (by omega)
  have HR := Aside0.mk hr
  clear hr
  go_wp2_with ((with_reducible refine gate_builtin (b := .clear) (xs := #[.tmp 31]) rfl ?_); refine Kd.R_clear k27 (w0 := w1) (g := g) (n := l.length - 1) base rfl (.tmp 31) 24 27 _ rfl Try.underlying24 zero27_ rfl one27_ rfl ?hA (HR.out) ?hm ?hmc ?hB ?hb ?_; (case hA => rw [add_at, Nat.zero_add]; rfl); (case hm => omega); (case hmc => omega); (case hB => exact Below.refl _ _); (case hb => exact Nat.le_trans hbase hg.size); intro w2 hr2 hb2 hg2)
  all_goals go_ret
  all_goals have G : w.grownBy w2 (some g) := ⟨hg2.os.trans hg.os, hg2.tape.trans hg.tape, hg2.output.trans hg.output, Nat.le_trans hg.size hg2.size, fun k hk hne => (hg2.block k (Nat.lt_of_lt_of_le hk hg.size) hne).trans (hg.block k hk hne)⟩
  all_goals first | exact ⟨rfl, hr2, G⟩ | (have hc_ : c = i + 1 := (by assumption); rw [hc_] at hr2; exact ⟨rfl, hr2, G⟩)
end del27
def impl_Block_20.f (l0 : List (S27)) (a1 a2 : Int) : Option (List (S27)) := if 0 ≤ a1 ∧ a1 < (l0.length : Int) ∧ a2 = a1 + 1 then some (l0.eraseIdx a1.toNat) else none
theorem impl_Block_20.calls (P0_ : Nat → Prop) (u9000_ : Value) (l0 : List (S27)) (a1 : Int) (a2 : Int) (r : List (S27)) (w0 w : World) (hB : Below w0.heap.size w0 w) (ho0 : Kd.R k27 27 w w0.heap.size P0_ u9000_ l0) (h : impl_Block_20.f l0 a1 a2 = some r) :
    Calls Try.prog 20 #[u9000_, .int .i64 a1, .int .i64 a2] w fun e w' => ∃ v0_ : Value, e = .returned (v0_) ∧ Kd.R k27 27 w' w0.heap.size (fun k_ => (P0_ k_ ∨ w.heap.size ≤ k_)) v0_ r ∧ Below w0.heap.size w0 w' ∧ Kept w w' (fun k_ => P0_ k_) := by
  unfold impl_Block_20.f at h
  split at h
  rotate_left
  · cases h
  rename_i hc
  obtain ⟨h0, h1, h2⟩ := hc
  subst h2
  obtain ⟨i, rfl⟩ : ∃ i : Nat, a1 = (i : Int) := ⟨a1.toNat, by omega⟩
  injection h with h
  rw [Int.toNat_natCast] at h
  have HO := Kd.R_mono (ok' := fun k_ => (P0_ k_ ∨ w.heap.size ≤ k_)) ho0 (fun k hk => .inl hk)
  have hh := ho0
  obtain ⟨hok0, inner, hown, hri⟩ := ho0
  rcases hown.2 with ⟨hv', hl0⟩ | ⟨g, c, cur, rfl, hgb, hgh, hgc, hgm, hgs, hgt⟩
  · omega
  have hP0 : P0_ g := hok0 g (by simp [Value.ownBlock])
  refine (del27.calls w w0.heap.size g l0.length c i _ l0 HO (by omega) hB.size).mono ?_
  rintro e w' ⟨rfl, hR, hg⟩
  refine ⟨_, rfl, by rw [← h]; exact hR, hB.grown hg hB.size (fun k hk => by injection hk with hk; omega), Kept.of_grown hg (Kept.refl _ _) (fun k hk => by injection hk with hk; subst hk; exact .inl hP0)⟩
end Go.Proofs.Ytocaadjpibepaaa.P

-- printed by a program of this session out of the translation
namespace Go.Proofs.Ytocaadjpibepaaa.P
open Go.RowKit Go.Proofs.YtocaadjpibepaaaW.PrintWords Go.Proofs.YtocaadjpibepaaaW.PrintLast Go.Proofs.YtocaadjpibepaaaW.PrintMore
attribute [local go_sem] max2_int min2_int max_two min_two max_three min_three max_four min_four   -- for this text's walks alone
set_option linter.unusedVariables false
set_option linter.unusedSimpArgs false

/-! ### impl_DropBlock: function 8 -/
def impl_DropBlock.f (k : Nat) (l0 : List (S27)) (a1 : ByteArray) (a2 : ByteArray) : Option ((List (S27)) × Int) := (impl_ValidBlocks.f k l0).bind fun t375 => (if t375 = true then ((impl_Block_18_at_impl_compareBlocks.f k l0 a1 a2 (⟨#[]⟩ : ByteArray)).bind fun bt376 => (if bt376.2 = true then ((impl_Block_21.f l0).bind fun t378 => ((impl_Block_20.f t378 bt376.1 (wrap64 (bt376.1 + 1))).bind fun t381 => (some (t381, 0)))) else (some (([] : List (S27)), 3)))) else (some (([] : List (S27)), 1)))
theorem impl_DropBlock.mono : ∀ a0 a1 a2 k, LeO (impl_DropBlock.f k a0 a1 a2) (impl_DropBlock.f (k + 1) a0 a1 a2) := by
  intro a0 a1 a2 k
  unfold impl_DropBlock.f
  repeat' first
      | (with_reducible exact impl_Block_18_at_impl_compareBlocks.mono _ _ _ _ _)
      | (with_reducible exact impl_ValidBlocks.mono _ _)
      | (with_reducible exact LeO.refl _)
      | (with_reducible exact LeO.none _)
      | (with_reducible refine LeO.ite ?_ ?_)
      | (with_reducible refine LeO.bind ?_ (fun _ => ?_))
      | exact impl_Block_18_at_impl_compareBlocks.mono _ _ _ _ _
      | exact impl_ValidBlocks.mono _ _
      | exact LeO.none _
      | refine LeO.ite ?_ ?_
      | refine LeO.bind ?_ (fun _ => ?_)
set_option maxHeartbeats 8000000 in
set_option maxRecDepth 100000 in
theorem impl_DropBlock.calls (k : Nat) (A0 : Option Addr) (c0 : Nat) (l0 : List (S27)) (a1 : ByteArray) (a2 : ByteArray) (r1 : List (S27)) (r2 : Int) (w : World) (hr0 : Kd.C k27 w A0 l0.length l0) (hc0 : l0.length ≤ c0) (h : impl_DropBlock.f k l0 a1 a2 = some (r1, r2)) :
    Calls Try.prog 8 #[.slice A0 l0.length c0, .string a1, .string a2] w fun e w' => ∃ v0_ : Value, e = .returned (.tuple #[v0_, .int .i64 r2]) ∧ Kd.R k27 27 w' w.heap.size (fun _ => True) v0_ r1 ∧ Below w.heap.size w w' := by
  have hu27 := Try.underlying27
  have HR0 := Aside0.mk hr0
  have HC0 := Aside0.mk hc0
  clear hr0 hc0
  have HB := Aside0.mk (Below.refl w.heap.size w)
  have H : ((impl_ValidBlocks.f k l0).bind fun t375 => (if t375 = true then ((impl_Block_18_at_impl_compareBlocks.f k l0 a1 a2 (⟨#[]⟩ : ByteArray)).bind fun bt376 => (if bt376.2 = true then ((impl_Block_21.f l0).bind fun t378 => ((impl_Block_20.f t378 bt376.1 (wrap64 (bt376.1 + 1))).bind fun t381 => (some (t381, 0)))) else (some (([] : List (S27)), 3)))) else (some (([] : List (S27)), 1)))) = some (r1, r2) := h
  clear h
  replace H := Option.bind_eq_some_iff.mp H
  obtain ⟨t375, A40, H⟩ := H
  replace H : (if t375 = true then ((impl_Block_18_at_impl_compareBlocks.f k l0 a1 a2 (⟨#[]⟩ : ByteArray)).bind fun bt376 => (if bt376.2 = true then ((impl_Block_21.f l0).bind fun t378 => ((impl_Block_20.f t378 bt376.1 (wrap64 (bt376.1 + 1))).bind fun t381 => (some (t381, 0)))) else (some (([] : List (S27)), 3)))) else (some (([] : List (S27)), 1))) = some (r1, r2) := H
  have A4 := Aside0.mk A40
  clear A40
  by_cases c5 : t375 = true
  · subst c5
    have H1 : ((impl_Block_18_at_impl_compareBlocks.f k l0 a1 a2 (⟨#[]⟩ : ByteArray)).bind fun bt376 => (if bt376.2 = true then ((impl_Block_21.f l0).bind fun t378 => ((impl_Block_20.f t378 bt376.1 (wrap64 (bt376.1 + 1))).bind fun t381 => (some (t381, 0)))) else (some (([] : List (S27)), 3)))) = some (r1, r2) := by rw [if_pos rfl] at H; exact H
    clear H
    have H := H1
    clear H1
    replace H := Option.bind_eq_some_iff.mp H
    obtain ⟨⟨t376, t377⟩, A60, H⟩ := H
    replace H : (if t377 = true then ((impl_Block_21.f l0).bind fun t378 => ((impl_Block_20.f t378 t376 (wrap64 (t376 + 1))).bind fun t381 => (some (t381, 0)))) else (some (([] : List (S27)), 3))) = some (r1, r2) := H
    have A6 := Aside0.mk A60
    clear A60
    by_cases c7 : t377 = true
    · subst c7
      have H1 : ((impl_Block_21.f l0).bind fun t378 => ((impl_Block_20.f t378 t376 (wrap64 (t376 + 1))).bind fun t381 => (some (t381, 0)))) = some (r1, r2) := by rw [if_pos rfl] at H; exact H
      clear H
      have H := H1
      clear H1
      replace H := Option.bind_eq_some_iff.mp H
      obtain ⟨t378, A80, H⟩ := H
      replace H : ((impl_Block_20.f t378 t376 (wrap64 (t376 + 1))).bind fun t381 => (some (t381, 0))) = some (r1, r2) := H
      have A8 := Aside0.mk A80
      clear A80
      replace H := Option.bind_eq_some_iff.mp H
      obtain ⟨t381, A90, H⟩ := H
      replace H : (some (t381, 0)) = some (r1, r2) := H
      have A9 := Aside0.mk A90
      clear A90
      simp only [Option.some.injEq, Prod.mk.injEq] at H
      obtain ⟨rfl, rfl⟩ := H
      go_enter Try.func8, Try.ntmps8
      go_wp2_with (first | ((with_reducible refine gate_callee (f := 15) rfl ?_); refine goesL_ (some 11) rfl rfl Try.func15 (by kernel_rfl) rfl #[.slice A0 l0.length c0] rfl (by (try simp only [List.map_toArray, List.map_cons, List.map_nil]); first | done | rfl | (simp only [List.length_drop, List.length_take]; rfl)) ?_; (with_reducible refine (impl_ValidBlocks.calls k _ _ l0 true _ ?side1 ?side2 A4.out).mono ?_); (case side1 => repeat (first | exact HR0.out | (with_reducible refine Kd.C_alloc ?_ _) | (with_reducible refine Kd.C_drewN ?_ _) | (with_reducible refine Kd.C_drew ?_))); (case side2 => exact HC0.out); rintro e w10 ⟨rfl, hb⟩; refine ⟨_, rfl, ?_⟩; have n0_ := Aside0.mk (below_step (by repeat (first | (with_reducible first | exact HB.out | apply below_alloc | apply pw_below_drewN | apply below_drew1) | exact HB.out)) hb); clear HB; have HB := n0_; clear n0_; (try clear hb); (try clear hb2); (try clear hk); (try clear hi)) | ((with_reducible refine gate_callee (f := 18) rfl ?_); refine goesL_ (some 18) rfl rfl Try.func18 (by kernel_rfl) rfl #[.slice A0 l0.length c0, .agg #[.string a1, .string a2, .string (⟨#[]⟩ : ByteArray)], .func (.func 19) #[] #[]] rfl (by (try simp only [List.map_toArray, List.map_cons, List.map_nil]); first | done | rfl | (simp only [List.length_drop, List.length_take]; rfl)) ?_; (with_reducible refine (impl_Block_18_at_impl_compareBlocks.calls k _ _ l0 a1 a2 (⟨#[]⟩ : ByteArray) t376 true _ ?side1 ?side2 A6.out).mono ?_); (case side1 => repeat (first | exact (Kd.C_below HR0.out HB.out) | (with_reducible refine Kd.C_alloc ?_ _) | (with_reducible refine Kd.C_drewN ?_ _) | (with_reducible refine Kd.C_drew ?_))); (case side2 => exact HC0.out); rintro e w11 ⟨rfl, hb⟩; refine ⟨_, rfl, ?_⟩; have n0_ := Aside0.mk (below_step (by repeat (first | (with_reducible first | exact HB.out | apply below_alloc | apply pw_below_drewN | apply below_drew1) | exact HB.out)) hb); clear HB; have HB := n0_; clear n0_; (try clear hb); (try clear hb2); (try clear hk); (try clear hi)) | ((with_reducible refine gate_callee (f := 21) rfl ?_); refine goesL_ (some 24) rfl rfl Try.func21 (by kernel_rfl) rfl #[.slice A0 l0.length c0] rfl (by (try simp only [List.map_toArray, List.map_cons, List.map_nil]); first | done | rfl | (simp only [List.length_drop, List.length_take]; rfl)) ?_; (with_reducible refine (impl_Block_21.calls _ _ l0 t378 _ ?side1 ?side2 A8.out).mono ?_); (case side1 => repeat (first | exact (Kd.C_below HR0.out HB.out) | (with_reducible refine Kd.C_alloc ?_ _) | (with_reducible refine Kd.C_drewN ?_ _) | (with_reducible refine Kd.C_drew ?_))); (case side2 => exact HC0.out); rintro e w12 ⟨v379, rfl, ho0, hb⟩; refine ⟨_, rfl, ?_⟩; have n0_ := Aside0.mk (Kd.R_lower ho0 (below_size (by repeat (first | (with_reducible first | exact HB.out | apply below_alloc | apply pw_below_drewN | apply below_drew1) | exact HB.out)))); have n1_ := Aside0.mk (below_step (by repeat (first | (with_reducible first | exact HB.out | apply below_alloc | apply pw_below_drewN | apply below_drew1) | exact HB.out)) hb); clear HB; have HO380 := n0_; have HB := n1_; clear n0_ n1_; (try clear hb); (try clear hb2); (try clear hk); (try clear hi); (try clear ho0); obtain ⟨Ao13, co13, eo13⟩ := Kd.R_slice HO380.out; subst eo13) | ((with_reducible refine gate_callee (f := 20) rfl ?_); refine goesL_ (some 28) rfl rfl Try.func20 (by kernel_rfl) rfl #[.slice Ao13 t378.length co13, .int .i64 t376, .int .i64 (wrap64 (t376 + 1))] rfl (by (try simp only [List.map_toArray, List.map_cons, List.map_nil]); first | done | rfl | (simp only [List.length_drop, List.length_take]; rfl)) ?_; (with_reducible refine (impl_Block_20.calls (fun k_ => some k_ = (.slice Ao13 t378.length co13 : Value).ownBlock) (.slice Ao13 t378.length co13) t378 t376 (wrap64 (t376 + 1)) t381 w _ ?side1 ?side2 A9.out).mono ?_); (case side1 => repeat (first | (with_reducible first | exact HB.out | apply below_alloc | apply pw_below_drewN | apply below_drew1) | exact HB.out)); (case side2 => exact Kd.R_tight rfl HO380.out); rintro e w14 ⟨v382, rfl, ho0, hb, hkp⟩; refine ⟨_, rfl, ?_⟩; have n0_ := Aside0.mk (Kd.R_mono (ok' := fun k_ => True) ho0 (fun k_ hk_ => trivial)); have n1_ := Aside0.mk (hb); clear HB; clear HO380; have HO383 := n0_; have HB := n1_; clear n0_ n1_; (try clear hb); (try clear hkp); (try clear ho0)))
      go_ret2
      exact ⟨_, by first | rfl | (simp [errW_none, errW_some] <;> rfl) | (simp [*, errW_none, errW_some] <;> rfl), by (with_reducible repeat (first | apply Kd.R_alloc | apply Kd.R_drewN | apply Kd.R_drew)); exact HO383.out, by repeat (first | (with_reducible first | exact HB.out | apply below_alloc | apply pw_below_drewN | apply below_drew1) | exact HB.out)⟩
    · replace c7 := Bool.eq_false_iff.mpr c7
      subst c7
      have H1 : (some (([] : List (S27)), 3)) = some (r1, r2) := by rw [if_neg (show ¬ (false = true) by decide)] at H; exact H
      clear H
      have H := H1
      clear H1
      simp only [Option.some.injEq, Prod.mk.injEq] at H
      obtain ⟨rfl, rfl⟩ := H
      go_enter Try.func8, Try.ntmps8
      go_wp2_with (first | ((with_reducible refine gate_callee (f := 15) rfl ?_); refine goesL_ (some 11) rfl rfl Try.func15 (by kernel_rfl) rfl #[.slice A0 l0.length c0] rfl (by (try simp only [List.map_toArray, List.map_cons, List.map_nil]); first | done | rfl | (simp only [List.length_drop, List.length_take]; rfl)) ?_; (with_reducible refine (impl_ValidBlocks.calls k _ _ l0 true _ ?side1 ?side2 A4.out).mono ?_); (case side1 => repeat (first | exact HR0.out | (with_reducible refine Kd.C_alloc ?_ _) | (with_reducible refine Kd.C_drewN ?_ _) | (with_reducible refine Kd.C_drew ?_))); (case side2 => exact HC0.out); rintro e w15 ⟨rfl, hb⟩; refine ⟨_, rfl, ?_⟩; have n0_ := Aside0.mk (below_step (by repeat (first | (with_reducible first | exact HB.out | apply below_alloc | apply pw_below_drewN | apply below_drew1) | exact HB.out)) hb); clear HB; have HB := n0_; clear n0_; (try clear hb); (try clear hb2); (try clear hk); (try clear hi)) | ((with_reducible refine gate_callee (f := 18) rfl ?_); refine goesL_ (some 18) rfl rfl Try.func18 (by kernel_rfl) rfl #[.slice A0 l0.length c0, .agg #[.string a1, .string a2, .string (⟨#[]⟩ : ByteArray)], .func (.func 19) #[] #[]] rfl (by (try simp only [List.map_toArray, List.map_cons, List.map_nil]); first | done | rfl | (simp only [List.length_drop, List.length_take]; rfl)) ?_; (with_reducible refine (impl_Block_18_at_impl_compareBlocks.calls k _ _ l0 a1 a2 (⟨#[]⟩ : ByteArray) t376 false _ ?side1 ?side2 A6.out).mono ?_); (case side1 => repeat (first | exact (Kd.C_below HR0.out HB.out) | (with_reducible refine Kd.C_alloc ?_ _) | (with_reducible refine Kd.C_drewN ?_ _) | (with_reducible refine Kd.C_drew ?_))); (case side2 => exact HC0.out); rintro e w16 ⟨rfl, hb⟩; refine ⟨_, rfl, ?_⟩; have n0_ := Aside0.mk (below_step (by repeat (first | (with_reducible first | exact HB.out | apply below_alloc | apply pw_below_drewN | apply below_drew1) | exact HB.out)) hb); clear HB; have HB := n0_; clear n0_; (try clear hb); (try clear hb2); (try clear hk); (try clear hi)))
      go_ret2
      exact ⟨_, by first | rfl | (simp [errW_none, errW_some] <;> rfl) | (simp [*, errW_none, errW_some] <;> rfl), by first | exact Kd.R_nil _ _ _ _ _ | exact Kd.N_nil _ _ _ _ _ | exact Kd.V_nil _ _ _ _ _ | exact Kd.Q_nil _ _ _ _ _ | exact Kd.S_nil _ _ _ _ _, by repeat (first | (with_reducible first | exact HB.out | apply below_alloc | apply pw_below_drewN | apply below_drew1) | exact HB.out)⟩
  · replace c5 := Bool.eq_false_iff.mpr c5
    subst c5
    have H1 : (some (([] : List (S27)), 1)) = some (r1, r2) := by rw [if_neg (show ¬ (false = true) by decide)] at H; exact H
    clear H
    have H := H1
    clear H1
    simp only [Option.some.injEq, Prod.mk.injEq] at H
    obtain ⟨rfl, rfl⟩ := H
    go_enter Try.func8, Try.ntmps8
    go_wp2_with (first | ((with_reducible refine gate_callee (f := 15) rfl ?_); refine goesL_ (some 11) rfl rfl Try.func15 (by kernel_rfl) rfl #[.slice A0 l0.length c0] rfl (by (try simp only [List.map_toArray, List.map_cons, List.map_nil]); first | done | rfl | (simp only [List.length_drop, List.length_take]; rfl)) ?_; (with_reducible refine (impl_ValidBlocks.calls k _ _ l0 false _ ?side1 ?side2 A4.out).mono ?_); (case side1 => repeat (first | exact HR0.out | (with_reducible refine Kd.C_alloc ?_ _) | (with_reducible refine Kd.C_drewN ?_ _) | (with_reducible refine Kd.C_drew ?_))); (case side2 => exact HC0.out); rintro e w17 ⟨rfl, hb⟩; refine ⟨_, rfl, ?_⟩; have n0_ := Aside0.mk (below_step (by repeat (first | (with_reducible first | exact HB.out | apply below_alloc | apply pw_below_drewN | apply below_drew1) | exact HB.out)) hb); clear HB; have HB := n0_; clear n0_; (try clear hb); (try clear hb2); (try clear hk); (try clear hi)))
    go_ret2
    exact ⟨_, by first | rfl | (simp [errW_none, errW_some] <;> rfl) | (simp [*, errW_none, errW_some] <;> rfl), by first | exact Kd.R_nil _ _ _ _ _ | exact Kd.N_nil _ _ _ _ _ | exact Kd.V_nil _ _ _ _ _ | exact Kd.Q_nil _ _ _ _ _ | exact Kd.S_nil _ _ _ _ _, by repeat (first | (with_reducible first | exact HB.out | apply below_alloc | apply pw_below_drewN | apply below_drew1) | exact HB.out)⟩

end Go.Proofs.Ytocaadjpibepaaa.P

-- printed by a program of this session out of the translation
namespace Go.Proofs.Ytocaadjpibepaaa.P
open Go.RowKit Go.Proofs.YtocaadjpibepaaaW.PrintWords Go.Proofs.YtocaadjpibepaaaW.PrintLast Go.Proofs.YtocaadjpibepaaaW.PrintMore
attribute [local go_sem] max2_int min2_int max_two min_two max_three min_three max_four min_four   -- for this text's walks alone
set_option linter.unusedVariables false
set_option linter.unusedSimpArgs false

/-! ### impl_MergeBlocks: function 9 -/
mutual
def impl_MergeBlocks.j0 : Nat → List (S27) → List (S27) → Bool → Option ((List (S27)) × Int)
  | 0, _, _, _ => none
  | k + 1, x0, x1, x16 => if x16 = true then (some (([] : List (S27)), 1)) else ((impl_Block_21.f x0).bind fun t386 => (impl_MergeBlocks.l0 k t386 x1 (x1.length : Int) 0))
def impl_MergeBlocks.l0 : Nat → List (S27) → List (S27) → Int → Int → Option ((List (S27)) × Int)
  | 0, _, _, _, _ => none
  | k + 1, x6, x19, x20, x21 => if x21 < x20 then (if 0 ≤ x21 then (if x21 < (x19.length : Int) then ((impl_withBlock.f k x6 ((rd_T27 x19 x21).f0) ((rd_T27 x19 x21).f1) ((rd_T27 x19 x21).f2)).bind fun t391 => (impl_MergeBlocks.l0 k t391 x19 x20 (wrap64 (x21 + 1)))) else (none)) else (none)) else (if (x6.length : Int) > 32 then (some (([] : List (S27)), 5)) else (some (x6, 0)))
end
def impl_MergeBlocks.f (k : Nat) (l0 : List (S27)) (l1 : List (S27)) : Option ((List (S27)) × Int) := (impl_ValidBlocks.f k l0).bind fun t384 => (if t384 = true then ((impl_ValidBlocks.f k l1).bind fun t385 => (impl_MergeBlocks.j0 k l0 l1 (!t385))) else (impl_MergeBlocks.j0 k l0 l1 true))
theorem impl_MergeBlocks.mono_l : ∀ k, (∀ y0 y1 y2, LeO (impl_MergeBlocks.j0 k y0 y1 y2) (impl_MergeBlocks.j0 (k + 1) y0 y1 y2)) ∧ (∀ y0 y1 y2 y3, LeO (impl_MergeBlocks.l0 k y0 y1 y2 y3) (impl_MergeBlocks.l0 (k + 1) y0 y1 y2 y3))
  | 0 => ⟨fun _ _ _ r h => by simp [impl_MergeBlocks.j0] at h, fun _ _ _ _ r h => by simp [impl_MergeBlocks.l0] at h⟩
  | k + 1 => by
    obtain ⟨ih0, ih1⟩ := impl_MergeBlocks.mono_l k
    refine ⟨?_, ?_⟩
    · intro y0 y1 y2
      unfold impl_MergeBlocks.j0
      repeat' first
      | (with_reducible exact ih0 _ _ _)
      | (with_reducible exact ih1 _ _ _ _)
      | (with_reducible exact impl_ValidBlocks.mono _ _)
      | (with_reducible exact impl_withBlock.mono _ _ _ _ _)
      | (with_reducible exact LeO.refl _)
      | (with_reducible exact LeO.none _)
      | (with_reducible refine LeO.ite ?_ ?_)
      | (with_reducible refine LeO.bind ?_ (fun _ => ?_))
      | exact ih0 _ _ _
      | exact ih1 _ _ _ _
      | exact impl_ValidBlocks.mono _ _
      | exact impl_withBlock.mono _ _ _ _ _
      | exact LeO.none _
      | refine LeO.ite ?_ ?_
      | refine LeO.bind ?_ (fun _ => ?_)
    · intro y0 y1 y2 y3
      unfold impl_MergeBlocks.l0
      repeat' first
      | (with_reducible exact ih0 _ _ _)
      | (with_reducible exact ih1 _ _ _ _)
      | (with_reducible exact impl_ValidBlocks.mono _ _)
      | (with_reducible exact impl_withBlock.mono _ _ _ _ _)
      | (with_reducible exact LeO.refl _)
      | (with_reducible exact LeO.none _)
      | (with_reducible refine LeO.ite ?_ ?_)
      | (with_reducible refine LeO.bind ?_ (fun _ => ?_))
      | exact ih0 _ _ _
      | exact ih1 _ _ _ _
      | exact impl_ValidBlocks.mono _ _
      | exact impl_withBlock.mono _ _ _ _ _
      | exact LeO.none _
      | refine LeO.ite ?_ ?_
      | refine LeO.bind ?_ (fun _ => ?_)
theorem impl_MergeBlocks.mono : ∀ a0 a1 k, LeO (impl_MergeBlocks.f k a0 a1) (impl_MergeBlocks.f (k + 1) a0 a1) := by
  intro a0 a1 k
  obtain ⟨ih0, ih1⟩ := impl_MergeBlocks.mono_l k
  unfold impl_MergeBlocks.f
  repeat' first
      | (with_reducible exact ih0 _ _ _)
      | (with_reducible exact ih1 _ _ _ _)
      | (with_reducible exact impl_ValidBlocks.mono _ _)
      | (with_reducible exact impl_withBlock.mono _ _ _ _ _)
      | (with_reducible exact LeO.refl _)
      | (with_reducible exact LeO.none _)
      | (with_reducible refine LeO.ite ?_ ?_)
      | (with_reducible refine LeO.bind ?_ (fun _ => ?_))
      | exact ih0 _ _ _
      | exact ih1 _ _ _ _
      | exact impl_ValidBlocks.mono _ _
      | exact impl_withBlock.mono _ _ _ _ _
      | exact LeO.none _
      | refine LeO.ite ?_ ?_
      | refine LeO.bind ?_ (fun _ => ?_)
set_option maxHeartbeats 8000000 in
set_option maxRecDepth 100000 in
theorem impl_MergeBlocks.calls (k : Nat) (A0 : Option Addr) (c0 : Nat) (l0 : List (S27)) (A1 : Option Addr) (c1 : Nat) (l1 : List (S27)) (r1 : List (S27)) (r2 : Int) (w : World) (hr0 : Kd.C k27 w A0 l0.length l0) (hc0 : l0.length ≤ c0) (hr1 : Kd.C k27 w A1 l1.length l1) (hc1 : l1.length ≤ c1) (h : impl_MergeBlocks.f k l0 l1 = some (r1, r2)) :
    Calls Try.prog 9 #[.slice A0 l0.length c0, .slice A1 l1.length c1] w fun e w' => ∃ v0_ : Value, e = .returned (.tuple #[v0_, .int .i64 r2]) ∧ Kd.R k27 27 w' w.heap.size (fun _ => True) v0_ r1 ∧ Below w.heap.size w w' := by
  have hu27 := Try.underlying27
  have HR0 := Aside0.mk hr0
  have HC0 := Aside0.mk hc0
  clear hr0 hc0
  have HR1 := Aside0.mk hr1
  have HC1 := Aside0.mk hc1
  clear hr1 hc1
  have HB := Aside0.mk (Below.refl w.heap.size w)
  have H : ((impl_ValidBlocks.f k l0).bind fun t384 => (if t384 = true then ((impl_ValidBlocks.f k l1).bind fun t385 => (impl_MergeBlocks.j0 k l0 l1 (!t385))) else (impl_MergeBlocks.j0 k l0 l1 true))) = some (r1, r2) := h
  clear h
  have HC3 := Aside0.mk H
  clear H
  go_enter Try.func9, Try.ntmps9
  go_upto_region 1 with (fail)
  go_cut [16] (fun v16 wc => ∃ (kq : Nat) (x16_2 : Bool), v16 = .bool x16_2 ∧ Aside0 (impl_MergeBlocks.j0 kq l0 l1 x16_2 = some (r1, r2)) ∧ Aside0 (kq ≤ k) ∧ Aside0 (Below w.heap.size w wc))
  case first =>
    have H := HC3.out
    clear HC3
    replace H := Option.bind_eq_some_iff.mp H
    obtain ⟨t384, A40, H⟩ := H
    replace H : (if t384 = true then ((impl_ValidBlocks.f k l1).bind fun t385 => (impl_MergeBlocks.j0 k l0 l1 (!t385))) else (impl_MergeBlocks.j0 k l0 l1 true)) = some (r1, r2) := H
    have A4 := Aside0.mk A40
    clear A40
    by_cases c5 : t384 = true
    · subst c5
      have H1 : ((impl_ValidBlocks.f k l1).bind fun t385 => (impl_MergeBlocks.j0 k l0 l1 (!t385))) = some (r1, r2) := by rw [if_pos rfl] at H; exact H
      clear H
      have H := H1
      clear H1
      replace H := Option.bind_eq_some_iff.mp H
      obtain ⟨t385, A60, H⟩ := H
      replace H : (impl_MergeBlocks.j0 k l0 l1 (!t385)) = some (r1, r2) := H
      have A6 := Aside0.mk A60
      clear A60
      have H' := Aside0.mk H
      clear H
      go_wp2_with (first | ((with_reducible refine gate_callee (f := 15) rfl ?_); refine goesL_ (some 10) rfl rfl Try.func15 (by kernel_rfl) rfl #[.slice A0 l0.length c0] rfl (by (try simp only [List.map_toArray, List.map_cons, List.map_nil]); first | done | rfl | (simp only [List.length_drop, List.length_take]; rfl)) ?_; (with_reducible refine (impl_ValidBlocks.calls k _ _ l0 true _ ?side1 ?side2 A4.out).mono ?_); (case side1 => repeat (first | exact (Kd.C_below HR0.out HB.out) | (with_reducible refine Kd.C_alloc ?_ _) | (with_reducible refine Kd.C_drewN ?_ _) | (with_reducible refine Kd.C_drew ?_))); (case side2 => exact HC0.out); rintro e w7 ⟨rfl, hb⟩; refine ⟨_, rfl, ?_⟩; have n0_ := Aside0.mk (below_step (by repeat (first | (with_reducible first | exact HB.out | apply below_alloc | apply pw_below_drewN | apply below_drew1) | exact HB.out)) hb); clear HB; have HB := n0_; clear n0_; (try clear hb); (try clear hb2); (try clear hk); (try clear hi)) | (go_at_call 15; (with_reducible refine (impl_ValidBlocks.calls k _ _ l1 t385 _ ?side1 ?side2 A6.out).mono ?_); (case side1 => repeat (first | exact (Kd.C_below HR1.out HB.out) | (with_reducible refine Kd.C_alloc ?_ _) | (with_reducible refine Kd.C_drewN ?_ _) | (with_reducible refine Kd.C_drew ?_))); (case side2 => exact HC1.out); rintro e w8 ⟨rfl, hb⟩; have n0_ := Aside0.mk (below_step (by repeat (first | (with_reducible first | exact HB.out | apply below_alloc | apply pw_below_drewN | apply below_drew1) | exact HB.out)) hb); clear HB; have HB := n0_; clear n0_; (try clear hb); (try clear hb2); (try clear hk); (try clear hi)))
      go_meet
      case rel => exact ⟨_, (!t385), (by first | rfl | (simp; done) | (simp [*]; done)), H', ⟨by first | omega | exact Nat.le_refl _⟩, ⟨by repeat (first | (with_reducible first | exact HB.out | apply below_alloc | apply pw_below_drewN | apply below_drew1) | exact HB.out)⟩⟩
    · replace c5 := Bool.eq_false_iff.mpr c5
      subst c5
      have H1 : (impl_MergeBlocks.j0 k l0 l1 true) = some (r1, r2) := by rw [if_neg (show ¬ (false = true) by decide)] at H; exact H
      clear H
      have H := H1
      clear H1
      have H' := Aside0.mk H
      clear H
      go_wp2_with (first | ((with_reducible refine gate_callee (f := 15) rfl ?_); refine goesL_ (some 10) rfl rfl Try.func15 (by kernel_rfl) rfl #[.slice A0 l0.length c0] rfl (by (try simp only [List.map_toArray, List.map_cons, List.map_nil]); first | done | rfl | (simp only [List.length_drop, List.length_take]; rfl)) ?_; (with_reducible refine (impl_ValidBlocks.calls k _ _ l0 false _ ?side1 ?side2 A4.out).mono ?_); (case side1 => repeat (first | exact (Kd.C_below HR0.out HB.out) | (with_reducible refine Kd.C_alloc ?_ _) | (with_reducible refine Kd.C_drewN ?_ _) | (with_reducible refine Kd.C_drew ?_))); (case side2 => exact HC0.out); rintro e w9 ⟨rfl, hb⟩; refine ⟨_, rfl, ?_⟩; have n0_ := Aside0.mk (below_step (by repeat (first | (with_reducible first | exact HB.out | apply below_alloc | apply pw_below_drewN | apply below_drew1) | exact HB.out)) hb); clear HB; have HB := n0_; clear n0_; (try clear hb); (try clear hb2); (try clear hk); (try clear hi)))
      go_meet
      case rel => exact ⟨_, (true), (by first | rfl | (simp; done) | (simp [*]; done)), H', ⟨by first | omega | exact Nat.le_refl _⟩, ⟨by repeat (first | (with_reducible first | exact HB.out | apply below_alloc | apply pw_below_drewN | apply below_drew1) | exact HB.out)⟩⟩
  case rest =>
    clear HC3
    try clear c1
    try clear p2
    try clear c5
    try clear c9
    obtain ⟨kq, x16_2, rfl, HA, HJ2, HB⟩ := hcut
    cases kq with
    | zero => exact absurd HA.out (by simp [impl_MergeBlocks.j0])
    | succ kj2 =>
      have H := HA.out
      clear HA
      simp only [impl_MergeBlocks.j0] at H
      by_cases c10 : x16_2 = true
      · subst c10
        have H1 : (some (([] : List (S27)), 1)) = some (r1, r2) := by rw [if_pos rfl] at H; exact H
        clear H
        have H := H1
        clear H1
        simp only [Option.some.injEq, Prod.mk.injEq] at H
        obtain ⟨rfl, rfl⟩ := H
        go_wp2
        go_ret2
        exact ⟨_, by first | rfl | (simp [errW_none, errW_some] <;> rfl) | (simp [*, errW_none, errW_some] <;> rfl), by first | exact Kd.R_nil _ _ _ _ _ | exact Kd.N_nil _ _ _ _ _ | exact Kd.V_nil _ _ _ _ _ | exact Kd.Q_nil _ _ _ _ _ | exact Kd.S_nil _ _ _ _ _, by repeat (first | (with_reducible first | exact HB.out | apply below_alloc | apply pw_below_drewN | apply below_drew1) | exact HB.out)⟩
      · replace c10 := Bool.eq_false_iff.mpr c10
        subst c10
        have H1 : ((impl_Block_21.f l0).bind fun t386 => (impl_MergeBlocks.l0 kj2 t386 l1 (l1.length : Int) 0)) = some (r1, r2) := by rw [if_neg (show ¬ (false = true) by decide)] at H; exact H
        clear H
        have H := H1
        clear H1
        replace H := Option.bind_eq_some_iff.mp H
        obtain ⟨t386, A110, H⟩ := H
        replace H : (impl_MergeBlocks.l0 kj2 t386 l1 (l1.length : Int) 0) = some (r1, r2) := H
        have A11 := Aside0.mk A110
        clear A110
        have H' := Aside0.mk H
        clear H
        go_wp2_with (first | ((with_reducible refine gate_callee (f := 21) rfl ?_); refine goesL_ (some 18) rfl rfl Try.func21 (by kernel_rfl) rfl #[.slice A0 l0.length c0] rfl (by (try simp only [List.map_toArray, List.map_cons, List.map_nil]); first | done | rfl | (simp only [List.length_drop, List.length_take]; rfl)) ?_; (with_reducible refine (impl_Block_21.calls _ _ l0 t386 _ ?side1 ?side2 A11.out).mono ?_); (case side1 => repeat (first | exact (Kd.C_below HR0.out HB.out) | (with_reducible refine Kd.C_alloc ?_ _) | (with_reducible refine Kd.C_drewN ?_ _) | (with_reducible refine Kd.C_drew ?_))); (case side2 => exact HC0.out); rintro e w12 ⟨v387, rfl, ho0, hb⟩; refine ⟨_, rfl, ?_⟩; have n0_ := Aside0.mk (Kd.R_lower ho0 (below_size (by repeat (first | (with_reducible first | exact HB.out | apply below_alloc | apply pw_below_drewN | apply below_drew1) | exact HB.out)))); have n1_ := Aside0.mk (below_step (by repeat (first | (with_reducible first | exact HB.out | apply below_alloc | apply pw_below_drewN | apply below_drew1) | exact HB.out)) hb); clear HB; have HO388 := n0_; have HB := n1_; clear n0_ n1_; (try clear hb); (try clear hb2); (try clear hk); (try clear hi); (try clear ho0)))
        go_loopg [6, 21] kj2 (fun kq v6 v21 w' => ∃ (x6_2 : List (S27)) (x21_2 : Int), v21 = .int .i64 x21_2 ∧ Aside0 (impl_MergeBlocks.l0 kq x6_2 l1 (l1.length : Int) x21_2 = some (r1, r2)) ∧ Aside0 (kq ≤ kj2) ∧ Aside0 (Kd.R k27 27 w' w.heap.size (fun _ => True) v6 x6_2) ∧ Aside0 (Below w.heap.size w w'))
        case atStart => exact ⟨(t386), (0), (by first | rfl | (simp; done) | (simp [*]; done)), H', ⟨Nat.le_refl _⟩, ⟨by (with_reducible repeat (first | apply Kd.R_alloc | apply Kd.R_drewN | apply Kd.R_drew)); exact HO388.out⟩, ⟨by repeat (first | (with_reducible first | exact HB.out | apply below_alloc | apply pw_below_drewN | apply below_drew1) | exact HB.out)⟩⟩
        case round =>
          clear H'
          try clear c1
          try clear c2
          try clear p2
          try clear c5
          try clear c9
          try clear c10
          try clear p2
          obtain ⟨x6_2, x21_2, rfl, HA, HK2, HO_6, HB⟩ := hrel
          cases gk with
          | zero => exact absurd HA.out (by simp [impl_MergeBlocks.l0])
          | succ k2 =>
            have H := HA.out
            clear HA
            simp only [impl_MergeBlocks.l0] at H
            by_cases c13 : x21_2 < (l1.length : Int)
            · rw [if_pos c13] at H
              have c13b0 : decide (x21_2 < (l1.length : Int)) = true := decide_eq_true c13
              clear c13
              by_cases c14 : 0 ≤ x21_2
              · rw [if_pos c14] at H
                have c14b0 : decide (0 ≤ x21_2) = true := decide_eq_true c14
                clear c14
                by_cases c15 : x21_2 < (l1.length : Int)
                · rw [if_pos c15] at H
                  have c15b0 : decide (x21_2 < (l1.length : Int)) = true := decide_eq_true c15
                  clear c15
                  replace H := Option.bind_eq_some_iff.mp H
                  obtain ⟨t391, A160, H⟩ := H
                  replace H : (impl_MergeBlocks.l0 k2 t391 l1 (l1.length : Int) (wrap64 (x21_2 + 1))) = some (r1, r2) := H
                  have A16 := Aside0.mk A160
                  clear A160
                  have H' := Aside0.mk H
                  clear H
                  have p389 : 0 ≤ (x21_2 : Int) := of_decide_eq_true (by first | (with_reducible assumption) | assumption)
                  have q389 : x21_2 < (l1.length : Int) := of_decide_eq_true (by first | (with_reducible assumption) | assumption)
                  obtain ⟨ad389, e389, hx389_0, hx389_1, hx389_2⟩ := at_T27 HR1.out x21_2 p389 q389
                  cases e389
                  replace hx389_0 := (HB.out.cell (World.block_lt_of_cell? w _ hx389_0)).trans hx389_0
                  replace hx389_1 := (HB.out.cell (World.block_lt_of_cell? w _ hx389_1)).trans hx389_1
                  replace hx389_2 := (HB.out.cell (World.block_lt_of_cell? w _ hx389_2)).trans hx389_2
                  replace p389 := eq_true p389
                  replace q389 := eq_true q389
                  go_wp2_with (first | ((with_reducible refine gate_dst (N := 8) rfl ?_); refine box_event ?hg (N := 8) ?hd (cs := #[.string (⟨#[]⟩ : ByteArray), .string (⟨#[]⟩ : ByteArray), .string (⟨#[]⟩ : ByteArray)]) (t := 27) ?hr ?_; (case hd => rfl); (case hg => rfl); (case hr => first | (go_simp; done) | (go_simp; rfl)); intro gb390 hg w17 hbox hb; have n0_ := Aside0.mk (Kd.R_below (Kd.R_elderB (by (with_reducible repeat (first | apply Kd.R_alloc | apply Kd.R_drewN | apply Kd.R_drew)); exact HO_6.out) gb390 (Nat.le_of_eq hg.symm)) hb); have n1_ := Aside0.mk (below_step (by repeat (first | (with_reducible first | exact HB.out | apply below_alloc | apply pw_below_drewN | apply below_drew1) | exact HB.out)) hb); have n2_ := Aside0.mk (hbox); have n3_ := Aside0.mk ((by rw [hg]; exact (below_size (by repeat (first | (with_reducible first | exact HB.out | apply below_alloc | apply pw_below_drewN | apply below_drew1) | exact HB.out))) : w.heap.size ≤ gb390)); have n4_ := Aside0.mk ((by rw [hg]; exact (below_size (by repeat (first | (with_reducible first | exact HB.out | apply below_alloc | apply pw_below_drewN | apply below_drew1) | exact HB.out))) : w.heap.size ≤ gb390)); clear HO_6; clear HB; have HO_6 := n0_; have HB := n1_; have BK390 := n2_; have GW390 := n3_; have GE390 := n4_; clear n0_ n1_ n2_ n3_ n4_; clear hb hbox hg; have hcz18_0 : w17.cell? ⟨gb390, 0, none⟩ = some (.string (⟨#[]⟩ : ByteArray)) := (blk_cell BK390.out 0).trans rfl; have hcz18_1 : w17.cell? ⟨gb390, 1, none⟩ = some (.string (⟨#[]⟩ : ByteArray)) := (blk_cell BK390.out 1).trans rfl; have hcz18_2 : w17.cell? ⟨gb390, 2, none⟩ = some (.string (⟨#[]⟩ : ByteArray)) := (blk_cell BK390.out 2).trans rfl; have hfz18_0 := blk_frozen BK390.out 0; have hfz18_1 := blk_frozen BK390.out 1; have hfz18_2 := blk_frozen BK390.out 2; obtain ⟨Ao19, co19, eo19⟩ := Kd.R_slice HO_6.out; subst eo19) | ((with_reducible refine gate_callee (f := 17) rfl ?_); refine goesL_ (some 27) rfl rfl Try.func17 (by kernel_rfl) rfl #[.slice Ao19 x6_2.length co19, .agg #[.string ((rd_T27 l1 x21_2).f0), .string ((rd_T27 l1 x21_2).f1), .string ((rd_T27 l1 x21_2).f2)]] rfl (by (try simp only [List.map_toArray, List.map_cons, List.map_nil]); first | done | rfl | (simp only [List.length_drop, List.length_take]; rfl)) ?_; (with_reducible refine (impl_withBlock.calls k2 _ _ x6_2 ((rd_T27 l1 x21_2).f0) ((rd_T27 l1 x21_2).f1) ((rd_T27 l1 x21_2).f2) t391 _ ?side1 ?side2 A16.out).mono ?_); (case side1 => refine (Kd.R_reads' (e := 27) (base := w.heap.size) (ok := fun k_ => (True ∧ k_ ≠ gb390)) (n := x6_2.length) (c := co19) ?_).2.2; exact (by (with_reducible repeat (first | apply Kd.R_alloc | apply Kd.R_drewN | apply Kd.R_drew)); exact (Kd.R_mono (Kd.R_far (p := ⟨gb390, 2, none⟩) (Kd.R_far (p := ⟨gb390, 1, none⟩) (Kd.R_far (p := ⟨gb390, 0, none⟩) (Kd.R_mono HO_6.out (fun k_ hk => (⟨hk, hk.2⟩ : _ ∧ k_ ≠ gb390))) (fun _ hk => hk.2) (.string ((rd_T27 l1 x21_2).f0))) (fun _ hk => hk.2) (.string ((rd_T27 l1 x21_2).f1))) (fun _ hk => hk.2) (.string ((rd_T27 l1 x21_2).f2))) (fun _ h_ => h_.1)))); (case side2 => exact (Kd.R_reads' HO_6.out).2.1); rintro e w20 ⟨v392, rfl, ho0, hb⟩; refine ⟨_, rfl, ?_⟩; have n0_ := Aside0.mk (Kd.R_elder' (by (with_reducible repeat (first | apply Kd.R_alloc | apply Kd.R_drewN | apply Kd.R_drew)); exact (Kd.R_mono (Kd.R_far (p := ⟨gb390, 2, none⟩) (Kd.R_far (p := ⟨gb390, 1, none⟩) (Kd.R_far (p := ⟨gb390, 0, none⟩) (Kd.R_mono HO_6.out (fun k_ hk => (⟨hk, hk.2⟩ : _ ∧ k_ ≠ gb390))) (fun _ hk => hk.2) (.string ((rd_T27 l1 x21_2).f0))) (fun _ hk => hk.2) (.string ((rd_T27 l1 x21_2).f1))) (fun _ hk => hk.2) (.string ((rd_T27 l1 x21_2).f2))) (fun _ h_ => h_.1))) (Kd.R_base ho0) hb); have n1_ := Aside0.mk (Kd.R_lower (Kd.R_newB (Kd.R_new' ho0 (Kd.R_lt (by (with_reducible repeat (first | apply Kd.R_alloc | apply Kd.R_drewN | apply Kd.R_drew)); exact (Kd.R_mono (Kd.R_far (p := ⟨gb390, 2, none⟩) (Kd.R_far (p := ⟨gb390, 1, none⟩) (Kd.R_far (p := ⟨gb390, 0, none⟩) (Kd.R_mono HO_6.out (fun k_ hk => (⟨hk, hk.2⟩ : _ ∧ k_ ≠ gb390))) (fun _ hk => hk.2) (.string ((rd_T27 l1 x21_2).f0))) (fun _ hk => hk.2) (.string ((rd_T27 l1 x21_2).f1))) (fun _ hk => hk.2) (.string ((rd_T27 l1 x21_2).f2))) (fun _ h_ => h_.1))))) (g := gb390) (o := .cells #[.string ((rd_T27 l1 x21_2).f0), .string ((rd_T27 l1 x21_2).f1), .string ((rd_T27 l1 x21_2).f2)] 27 (0, 0)) (by (with_reducible repeat (first | refine blk_drewN ?_ _ | refine blk_drew ?_ | refine blk_alloc ?_ _)); refine blk_put (cs := #[.string ((rd_T27 l1 x21_2).f0), .string ((rd_T27 l1 x21_2).f1), .string (⟨#[]⟩ : ByteArray)]) ?_ 2 _ rfl; (with_reducible repeat (first | refine blk_drewN ?_ _ | refine blk_drew ?_ | refine blk_alloc ?_ _)); refine blk_put (cs := #[.string ((rd_T27 l1 x21_2).f0), .string (⟨#[]⟩ : ByteArray), .string (⟨#[]⟩ : ByteArray)]) ?_ 1 _ rfl; (with_reducible repeat (first | refine blk_drewN ?_ _ | refine blk_drew ?_ | refine blk_alloc ?_ _)); refine blk_put (cs := #[.string (⟨#[]⟩ : ByteArray), .string (⟨#[]⟩ : ByteArray), .string (⟨#[]⟩ : ByteArray)]) ?_ 0 _ rfl; (with_reducible repeat (first | refine blk_drewN ?_ _ | refine blk_drew ?_ | refine blk_alloc ?_ _)); exact BK390.out)) (below_size (by repeat (first | (with_reducible first | exact HB.out | apply below_alloc | apply pw_below_drewN | apply below_drew1 | refine below_set ?_ GE390.out) | exact HB.out)))); have n2_ := Aside0.mk (blk_below (g := gb390) (o := .cells #[.string ((rd_T27 l1 x21_2).f0), .string ((rd_T27 l1 x21_2).f1), .string ((rd_T27 l1 x21_2).f2)] 27 (0, 0)) (by (with_reducible repeat (first | refine blk_drewN ?_ _ | refine blk_drew ?_ | refine blk_alloc ?_ _)); refine blk_put (cs := #[.string ((rd_T27 l1 x21_2).f0), .string ((rd_T27 l1 x21_2).f1), .string (⟨#[]⟩ : ByteArray)]) ?_ 2 _ rfl; (with_reducible repeat (first | refine blk_drewN ?_ _ | refine blk_drew ?_ | refine blk_alloc ?_ _)); refine blk_put (cs := #[.string ((rd_T27 l1 x21_2).f0), .string (⟨#[]⟩ : ByteArray), .string (⟨#[]⟩ : ByteArray)]) ?_ 1 _ rfl; (with_reducible repeat (first | refine blk_drewN ?_ _ | refine blk_drew ?_ | refine blk_alloc ?_ _)); refine blk_put (cs := #[.string (⟨#[]⟩ : ByteArray), .string (⟨#[]⟩ : ByteArray), .string (⟨#[]⟩ : ByteArray)]) ?_ 0 _ rfl; (with_reducible repeat (first | refine blk_drewN ?_ _ | refine blk_drew ?_ | refine blk_alloc ?_ _)); exact BK390.out) hb); have n3_ := Aside0.mk (below_step (by repeat (first | (with_reducible first | exact HB.out | apply below_alloc | apply pw_below_drewN | apply below_drew1 | refine below_set ?_ GE390.out) | exact HB.out)) hb); clear HO_6; clear BK390; clear HB; have HO_6 := n0_; have HO393 := n1_; have BK390 := n2_; have HB := n3_; clear n0_ n1_ n2_ n3_; (try clear hb); (try clear hb2); (try clear hk); (try clear hi); (try clear ho0)))
                  go_roundg k2
                  case measure => have := HJ2.out; have := HK2.out; omega
                  case rel => exact ⟨(t391), (wrap64 (x21_2 + 1)), (by first | rfl | (simp; done) | (simp [*]; done)), H', ⟨by have := HJ2.out; have := HK2.out; omega⟩, ⟨by (with_reducible repeat (first | apply Kd.R_alloc | apply Kd.R_drewN | apply Kd.R_drew)); exact Kd.R_mono HO393.out (fun _ hk => trivial)⟩, ⟨by repeat (first | (with_reducible first | exact HB.out | apply below_alloc | apply pw_below_drewN | apply below_drew1 | refine below_set ?_ GE390.out) | exact HB.out)⟩⟩
                · rw [if_neg c15] at H
                  exact absurd H (by simp)
              · rw [if_neg c14] at H
                exact absurd H (by simp)
            · rw [if_neg c13] at H
              have c13b0 : decide (x21_2 < (l1.length : Int)) = false := decide_eq_false c13
              clear c13
              by_cases c21 : (x6_2.length : Int) > 32
              · rw [if_pos c21] at H
                have c21b0 : decide (32 < (x6_2.length : Int)) = true := decide_eq_true c21
                have c21b1 : decide (32 < x6_2.length) = true := decide_eq_true (by omega)
                clear c21
                simp only [Option.some.injEq, Prod.mk.injEq] at H
                obtain ⟨rfl, rfl⟩ := H
                obtain ⟨Ao22, co22, eo22⟩ := Kd.R_slice HO_6.out
                subst eo22
                go_wp2
                go_ret2
                exact ⟨_, by first | rfl | (simp [errW_none, errW_some] <;> rfl) | (simp [*, errW_none, errW_some] <;> rfl), by first | exact Kd.R_nil _ _ _ _ _ | exact Kd.N_nil _ _ _ _ _ | exact Kd.V_nil _ _ _ _ _ | exact Kd.Q_nil _ _ _ _ _ | exact Kd.S_nil _ _ _ _ _, by repeat (first | (with_reducible first | exact HB.out | apply below_alloc | apply pw_below_drewN | apply below_drew1) | exact HB.out)⟩
              · rw [if_neg c21] at H
                have c21b0 : decide (32 < (x6_2.length : Int)) = false := decide_eq_false c21
                have c21b1 : decide (32 < x6_2.length) = false := decide_eq_false (by omega)
                clear c21
                simp only [Option.some.injEq, Prod.mk.injEq] at H
                obtain ⟨rfl, rfl⟩ := H
                obtain ⟨Ao23, co23, eo23⟩ := Kd.R_slice HO_6.out
                subst eo23
                go_wp2
                go_ret2
                exact ⟨_, by first | rfl | (simp [errW_none, errW_some] <;> rfl) | (simp [*, errW_none, errW_some] <;> rfl), by (with_reducible repeat (first | apply Kd.R_alloc | apply Kd.R_drewN | apply Kd.R_drew)); exact HO_6.out, by repeat (first | (with_reducible first | exact HB.out | apply below_alloc | apply pw_below_drewN | apply below_drew1) | exact HB.out)⟩

end Go.Proofs.Ytocaadjpibepaaa.P

-- printed by a program of this session out of the translation
namespace Go.Proofs.Ytocaadjpibepaaa.P
open Go.RowKit Go.Proofs.YtocaadjpibepaaaW.PrintWords Go.Proofs.YtocaadjpibepaaaW.PrintLast Go.Proofs.YtocaadjpibepaaaW.PrintMore
attribute [local go_sem] max2_int min2_int max_two min_two max_three min_three max_four min_four   -- for this text's walks alone
set_option linter.unusedVariables false
set_option linter.unusedSimpArgs false

/-! ### impl_BlocksOfKind: function 10 -/
def impl_BlocksOfKind.l0 : Nat → ByteArray → List ByteArray → List (S27) → Int → Int → Option (List ByteArray × Int)
  | 0, _, _, _, _, _ => none
  | k + 1, x1, x6, x12, x13, x14 => if x14 < x13 then (if 0 ≤ x14 then (if x14 < (x12.length : Int) then (if ((rd_T27 x12 x14).f0).toList = x1.toList then (if x6.length < 8796093022208 then (impl_BlocksOfKind.l0 k x1 (x6 ++ [(rd_T27 x12 x14).f1]) x12 x13 (wrap64 (x14 + 1))) else (none)) else (impl_BlocksOfKind.l0 k x1 x6 x12 x13 (wrap64 (x14 + 1)))) else (none)) else (none)) else (some (x6, 0))
def impl_BlocksOfKind.f (k : Nat) (l0 : List (S27)) (a1 : ByteArray) : Option (List ByteArray × Int) := (impl_ValidBlocks.f k l0).bind fun t394 => (if t394 = true then (impl_BlocksOfKind.l0 k a1 ([] : List ByteArray) l0 (l0.length : Int) 0) else (some (([] : List ByteArray), 1)))
theorem impl_BlocksOfKind.mono_l : ∀ k, (∀ y0 y1 y2 y3 y4, LeO (impl_BlocksOfKind.l0 k y0 y1 y2 y3 y4) (impl_BlocksOfKind.l0 (k + 1) y0 y1 y2 y3 y4))
  | 0 => fun _ _ _ _ _ r h => by simp [impl_BlocksOfKind.l0] at h
  | k + 1 => by
    have ih0 := impl_BlocksOfKind.mono_l k
    · intro y0 y1 y2 y3 y4
      unfold impl_BlocksOfKind.l0
      repeat' first
      | (with_reducible exact ih0 _ _ _ _ _)
      | (with_reducible exact impl_ValidBlocks.mono _ _)
      | (with_reducible exact LeO.refl _)
      | (with_reducible exact LeO.none _)
      | (with_reducible refine LeO.ite ?_ ?_)
      | (with_reducible refine LeO.bind ?_ (fun _ => ?_))
      | exact ih0 _ _ _ _ _
      | exact impl_ValidBlocks.mono _ _
      | exact LeO.none _
      | refine LeO.ite ?_ ?_
      | refine LeO.bind ?_ (fun _ => ?_)
theorem impl_BlocksOfKind.mono : ∀ a0 a1 k, LeO (impl_BlocksOfKind.f k a0 a1) (impl_BlocksOfKind.f (k + 1) a0 a1) := by
  intro a0 a1 k
  have ih0 := impl_BlocksOfKind.mono_l k
  unfold impl_BlocksOfKind.f
  repeat' first
      | (with_reducible exact ih0 _ _ _ _ _)
      | (with_reducible exact impl_ValidBlocks.mono _ _)
      | (with_reducible exact LeO.refl _)
      | (with_reducible exact LeO.none _)
      | (with_reducible refine LeO.ite ?_ ?_)
      | (with_reducible refine LeO.bind ?_ (fun _ => ?_))
      | exact ih0 _ _ _ _ _
      | exact impl_ValidBlocks.mono _ _
      | exact LeO.none _
      | refine LeO.ite ?_ ?_
      | refine LeO.bind ?_ (fun _ => ?_)
set_option maxHeartbeats 8000000 in
set_option maxRecDepth 100000 in
theorem impl_BlocksOfKind.calls (k : Nat) (A0 : Option Addr) (c0 : Nat) (l0 : List (S27)) (a1 : ByteArray) (r1 : List ByteArray) (r2 : Int) (w : World) (hr0 : Kd.C k27 w A0 l0.length l0) (hc0 : l0.length ≤ c0) (h : impl_BlocksOfKind.f k l0 a1 = some (r1, r2)) :
    Calls Try.prog 10 #[.slice A0 l0.length c0, .string a1] w fun e w' => ∃ v0_ : Value, e = .returned (.tuple #[v0_, .int .i64 r2]) ∧ Kd.R Kd.string 9 w' w.heap.size (fun _ => True) v0_ r1 ∧ Below w.heap.size w w' := by
  have hu27 := Try.underlying27
  have HR0 := Aside0.mk hr0
  have HC0 := Aside0.mk hc0
  clear hr0 hc0
  have HB := Aside0.mk (Below.refl w.heap.size w)
  have H : ((impl_ValidBlocks.f k l0).bind fun t394 => (if t394 = true then (impl_BlocksOfKind.l0 k a1 ([] : List ByteArray) l0 (l0.length : Int) 0) else (some (([] : List ByteArray), 1)))) = some (r1, r2) := h
  clear h
  replace H := Option.bind_eq_some_iff.mp H
  obtain ⟨t394, A30, H⟩ := H
  replace H : (if t394 = true then (impl_BlocksOfKind.l0 k a1 ([] : List ByteArray) l0 (l0.length : Int) 0) else (some (([] : List ByteArray), 1))) = some (r1, r2) := H
  have A3 := Aside0.mk A30
  clear A30
  by_cases c4 : t394 = true
  · subst c4
    have H1 : (impl_BlocksOfKind.l0 k a1 ([] : List ByteArray) l0 (l0.length : Int) 0) = some (r1, r2) := by rw [if_pos rfl] at H; exact H
    clear H
    have H := H1
    clear H1
    have H' := Aside0.mk H
    clear H
    go_enter Try.func10, Try.ntmps10
    go_wp2_with (first | ((with_reducible refine gate_callee (f := 15) rfl ?_); refine goesL_ (some 10) rfl rfl Try.func15 (by kernel_rfl) rfl #[.slice A0 l0.length c0] rfl (by (try simp only [List.map_toArray, List.map_cons, List.map_nil]); first | done | rfl | (simp only [List.length_drop, List.length_take]; rfl)) ?_; (with_reducible refine (impl_ValidBlocks.calls k _ _ l0 true _ ?side1 ?side2 A3.out).mono ?_); (case side1 => repeat (first | exact HR0.out | (with_reducible refine Kd.C_alloc ?_ _) | (with_reducible refine Kd.C_drewN ?_ _) | (with_reducible refine Kd.C_drew ?_))); (case side2 => exact HC0.out); rintro e w5 ⟨rfl, hb⟩; refine ⟨_, rfl, ?_⟩; have n0_ := Aside0.mk (below_step (by repeat (first | (with_reducible first | exact HB.out | apply below_alloc | apply pw_below_drewN | apply below_drew1) | exact HB.out)) hb); clear HB; have HB := n0_; clear n0_; (try clear hb); (try clear hb2); (try clear hk); (try clear hi)))
    go_loopg [6, 14] k (fun kq v6 v14 w' => ∃ (x6_1 : List ByteArray) (x14_1 : Int), v14 = .int .i64 x14_1 ∧ Aside0 (impl_BlocksOfKind.l0 kq a1 x6_1 l0 (l0.length : Int) x14_1 = some (r1, r2)) ∧ Aside0 (kq ≤ k) ∧ Aside0 (Kd.R Kd.string 9 w' w.heap.size (fun _ => True) v6 x6_1) ∧ Aside0 (Below w.heap.size w w'))
    case atStart => exact ⟨(([] : List ByteArray)), (0), (by first | rfl | (simp; done) | (simp [*]; done)), H', ⟨Nat.le_refl _⟩, ⟨by first | exact Kd.R_nil _ _ _ _ _ | exact Kd.N_nil _ _ _ _ _ | exact Kd.V_nil _ _ _ _ _ | exact Kd.Q_nil _ _ _ _ _ | exact Kd.S_nil _ _ _ _ _⟩, ⟨by repeat (first | (with_reducible first | exact HB.out | apply below_alloc | apply pw_below_drewN | apply below_drew1) | exact HB.out)⟩⟩
    case round =>
      clear H'
      try clear c1
      try clear p2
      try clear c4
      obtain ⟨x6_1, x14_1, rfl, HA, HK1, HO_6, HB⟩ := hrel
      cases gk with
      | zero => exact absurd HA.out (by simp [impl_BlocksOfKind.l0])
      | succ k1 =>
        have H := HA.out
        clear HA
        simp only [impl_BlocksOfKind.l0] at H
        by_cases c6 : x14_1 < (l0.length : Int)
        · rw [if_pos c6] at H
          have c6b0 : decide (x14_1 < (l0.length : Int)) = true := decide_eq_true c6
          clear c6
          by_cases c7 : 0 ≤ x14_1
          · rw [if_pos c7] at H
            have c7b0 : decide (0 ≤ x14_1) = true := decide_eq_true c7
            clear c7
            by_cases c8 : x14_1 < (l0.length : Int)
            · rw [if_pos c8] at H
              have c8b0 : decide (x14_1 < (l0.length : Int)) = true := decide_eq_true c8
              clear c8
              by_cases c9 : ((rd_T27 l0 x14_1).f0).toList = a1.toList
              · rw [if_pos c9] at H
                have c9b0 : (((rd_T27 l0 x14_1).f0).toList == a1.toList) = true := beq_iff_eq.mpr c9
                have c9b1 : (((rd_T27 l0 x14_1).f0).toList != a1.toList) = false := bne_eq_false_iff_eq.mpr c9
                clear c9
                by_cases c10 : x6_1.length < 8796093022208
                · rw [if_pos c10] at H
                  have LMc10 := Aside0.mk c10
                  clear c10
                  obtain ⟨y397, hy397⟩ : ∃ y_ : List ByteArray, y_ = (x6_1 ++ [(rd_T27 l0 x14_1).f1]) := ⟨_, rfl⟩
                  replace H : (impl_BlocksOfKind.l0 k1 a1 y397 l0 (l0.length : Int) (wrap64 (x14_1 + 1))) = some (r1, r2) := by first | (rw [hy397]; with_reducible exact H) | (have H2_ := (Option.bind_some _ _).symm.trans H; rw [hy397]; with_reducible exact H2_) | (have H2_ := (Option.bind_some _ _).symm.trans H; with_reducible exact H2_) | with_reducible exact H | (rw [hy397]; exact H) | exact H
                  have Ny397 := Aside0.mk hy397
                  clear hy397
                  have H' := Aside0.mk H
                  clear H
                  have p395 : 0 ≤ (x14_1 : Int) := of_decide_eq_true (by first | (with_reducible assumption) | assumption)
                  have q395 : x14_1 < (l0.length : Int) := of_decide_eq_true (by first | (with_reducible assumption) | assumption)
                  obtain ⟨ad395, e395, hx395_0, hx395_1, hx395_2⟩ := at_T27 HR0.out x14_1 p395 q395
                  cases e395
                  replace hx395_0 := (HB.out.cell (World.block_lt_of_cell? w _ hx395_0)).trans hx395_0
                  replace hx395_1 := (HB.out.cell (World.block_lt_of_cell? w _ hx395_1)).trans hx395_1
                  replace hx395_2 := (HB.out.cell (World.block_lt_of_cell? w _ hx395_2)).trans hx395_2
                  replace p395 := eq_true p395
                  replace q395 := eq_true q395
                  go_wp2_with (first | ((with_reducible refine gate_dst (N := 8) rfl ?_); refine box_event ?hg (N := 8) ?hd (cs := #[.string (⟨#[]⟩ : ByteArray), .string (⟨#[]⟩ : ByteArray), .string (⟨#[]⟩ : ByteArray)]) (t := 27) ?hr ?_; (case hd => rfl); (case hg => rfl); (case hr => first | (go_simp; done) | (go_simp; rfl)); intro gb396 hg w11 hbox hb; have n0_ := Aside0.mk (Kd.R_below (by (with_reducible repeat (first | apply Kd.R_alloc | apply Kd.R_drewN | apply Kd.R_drew)); exact HO_6.out) hb); have n1_ := Aside0.mk (below_step (by repeat (first | (with_reducible first | exact HB.out | apply below_alloc | apply pw_below_drewN | apply below_drew1) | exact HB.out)) hb); have n2_ := Aside0.mk (hbox); have n3_ := Aside0.mk ((by rw [hg]; exact (below_size (by repeat (first | (with_reducible first | exact HB.out | apply below_alloc | apply pw_below_drewN | apply below_drew1) | exact HB.out))) : w.heap.size ≤ gb396)); have n4_ := Aside0.mk ((by rw [hg]; exact (below_size (by repeat (first | (with_reducible first | exact HB.out | apply below_alloc | apply pw_below_drewN | apply below_drew1) | exact HB.out))) : w.heap.size ≤ gb396)); clear HO_6; clear HB; have HO_6 := n0_; have HB := n1_; have BK396 := n2_; have GW396 := n3_; have GE396 := n4_; clear n0_ n1_ n2_ n3_ n4_; clear hb hbox hg; have hcz12_0 : w11.cell? ⟨gb396, 0, none⟩ = some (.string (⟨#[]⟩ : ByteArray)) := (blk_cell BK396.out 0).trans rfl; have hcz12_1 : w11.cell? ⟨gb396, 1, none⟩ = some (.string (⟨#[]⟩ : ByteArray)) := (blk_cell BK396.out 1).trans rfl; have hcz12_2 : w11.cell? ⟨gb396, 2, none⟩ = some (.string (⟨#[]⟩ : ByteArray)) := (blk_cell BK396.out 2).trans rfl; have hfz12_0 := blk_frozen BK396.out 0; have hfz12_1 := blk_frozen BK396.out 1; have hfz12_2 := blk_frozen BK396.out 2) | ((with_reducible refine gate_builtin (b := .append) (xs := #[.tmp 22, .tmp 25]) rfl ?_); at_builtin; refine Kd.R_append Kd.string (w0 := w) w.heap.size rfl (.tmp 22) (.tmp 25) 34 9 (.string ⟨#[]⟩) 16 rfl Try.underlying34 info9 rfl (by decide) (by omega) u6 x6_1 ((rd_T27 l0 x14_1).f1) [.string ((rd_T27 l0 x14_1).f1)] (fun _ => True) (fun _ => False) rfl (by first | (go_simp; done) | (go_simp; rfl)) ?aP (fun _ hk => hk.elim) ?aF ?aO ?aB ?aS ?aL ?_; (case aP => exact rfl); (case aB => exact (by repeat (first | (with_reducible first | exact HB.out | apply below_alloc | apply pw_below_drewN | apply below_drew1 | refine below_set ?_ GE396.out) | exact HB.out))); (case aF => exact (fun _ _ => trivial)); (case aO => exact (by (with_reducible repeat (first | apply Kd.R_alloc | apply Kd.R_drewN | apply Kd.R_drew)); exact Kd.R_mono (Kd.R_far (p := ⟨gb396, 2, none⟩) (Kd.R_far (p := ⟨gb396, 1, none⟩) (Kd.R_far (p := ⟨gb396, 0, none⟩) (Kd.R_types HO_6.out BK396.out (by decide)) (fun _ hk => hk.2) (.string ((rd_T27 l0 x14_1).f0))) (fun _ hk => hk.2) (.string ((rd_T27 l0 x14_1).f1))) (fun _ hk => hk.2) (.string ((rd_T27 l0 x14_1).f2))) (fun _ hk => trivial))); (case aS => exact (below_size (by repeat (first | (with_reducible first | exact HB.out | apply below_alloc | apply pw_below_drewN | apply below_drew1 | refine below_set ?_ GE396.out) | exact HB.out)))); (case aL => have := LMc10.out; omega); intro v398 w13 ho hb hg hat; rw [← Ny397.out] at ho; have n0_ := Aside0.mk (blk_grown (g := gb396) (o := .cells #[.string ((rd_T27 l0 x14_1).f0), .string ((rd_T27 l0 x14_1).f1), .string ((rd_T27 l0 x14_1).f2)] 27 (0, 0)) (by (with_reducible repeat (first | refine blk_drewN ?_ _ | refine blk_drew ?_ | refine blk_alloc ?_ _)); refine blk_put (cs := #[.string ((rd_T27 l0 x14_1).f0), .string ((rd_T27 l0 x14_1).f1), .string (⟨#[]⟩ : ByteArray)]) ?_ 2 _ rfl; (with_reducible repeat (first | refine blk_drewN ?_ _ | refine blk_drew ?_ | refine blk_alloc ?_ _)); refine blk_put (cs := #[.string ((rd_T27 l0 x14_1).f0), .string (⟨#[]⟩ : ByteArray), .string (⟨#[]⟩ : ByteArray)]) ?_ 1 _ rfl; (with_reducible repeat (first | refine blk_drewN ?_ _ | refine blk_drew ?_ | refine blk_alloc ?_ _)); refine blk_put (cs := #[.string (⟨#[]⟩ : ByteArray), .string (⟨#[]⟩ : ByteArray), .string (⟨#[]⟩ : ByteArray)]) ?_ 0 _ rfl; (with_reducible repeat (first | refine blk_drewN ?_ _ | refine blk_drew ?_ | refine blk_alloc ?_ _)); exact BK396.out) hg (Kd.R_ne HO_6.out BK396.out (by decide))); have n1_ := Aside0.mk (hb); have n2_ := Aside0.mk (ho); clear BK396; clear HB; clear HO_6; have BK396 := n0_; have HB := n1_; have HO399 := n2_; clear n0_ n1_ n2_; clear ho hb hg hat))
                  go_roundg k1
                  case measure => have := HK1.out; omega
                  case rel => exact ⟨(y397), (wrap64 (x14_1 + 1)), (by first | rfl | (simp; done) | (simp [*]; done)), H', ⟨by have := HK1.out; omega⟩, ⟨by (with_reducible repeat (first | apply Kd.R_alloc | apply Kd.R_drewN | apply Kd.R_drew)); exact HO399.out⟩, ⟨by repeat (first | (with_reducible first | exact HB.out | apply below_alloc | apply pw_below_drewN | apply below_drew1 | refine below_set ?_ GE396.out) | exact HB.out)⟩⟩
                · rw [if_neg c10] at H
                  exact absurd H (by simp)
              · rw [if_neg c9] at H
                have c9b0 : (((rd_T27 l0 x14_1).f0).toList == a1.toList) = false := beq_eq_false_iff_ne.mpr c9
                have c9b1 : (((rd_T27 l0 x14_1).f0).toList != a1.toList) = true := bne_iff_ne.mpr c9
                have H' := Aside0.mk H
                clear H
                have p395 : 0 ≤ (x14_1 : Int) := of_decide_eq_true (by first | (with_reducible assumption) | assumption)
                have q395 : x14_1 < (l0.length : Int) := of_decide_eq_true (by first | (with_reducible assumption) | assumption)
                obtain ⟨ad395, e395, hx395_0, hx395_1, hx395_2⟩ := at_T27 HR0.out x14_1 p395 q395
                cases e395
                replace hx395_0 := (HB.out.cell (World.block_lt_of_cell? w _ hx395_0)).trans hx395_0
                replace hx395_1 := (HB.out.cell (World.block_lt_of_cell? w _ hx395_1)).trans hx395_1
                replace hx395_2 := (HB.out.cell (World.block_lt_of_cell? w _ hx395_2)).trans hx395_2
                replace p395 := eq_true p395
                replace q395 := eq_true q395
                go_wp2_with (first | ((with_reducible refine gate_dst (N := 8) rfl ?_); refine box_event ?hg (N := 8) ?hd (cs := #[.string (⟨#[]⟩ : ByteArray), .string (⟨#[]⟩ : ByteArray), .string (⟨#[]⟩ : ByteArray)]) (t := 27) ?hr ?_; (case hd => rfl); (case hg => rfl); (case hr => first | (go_simp; done) | (go_simp; rfl)); intro gb396 hg w14 hbox hb; have n0_ := Aside0.mk (Kd.R_below (by (with_reducible repeat (first | apply Kd.R_alloc | apply Kd.R_drewN | apply Kd.R_drew)); exact HO_6.out) hb); have n1_ := Aside0.mk (below_step (by repeat (first | (with_reducible first | exact HB.out | apply below_alloc | apply pw_below_drewN | apply below_drew1) | exact HB.out)) hb); have n2_ := Aside0.mk (hbox); have n3_ := Aside0.mk ((by rw [hg]; exact (below_size (by repeat (first | (with_reducible first | exact HB.out | apply below_alloc | apply pw_below_drewN | apply below_drew1) | exact HB.out))) : w.heap.size ≤ gb396)); have n4_ := Aside0.mk ((by rw [hg]; exact (below_size (by repeat (first | (with_reducible first | exact HB.out | apply below_alloc | apply pw_below_drewN | apply below_drew1) | exact HB.out))) : w.heap.size ≤ gb396)); clear HO_6; clear HB; have HO_6 := n0_; have HB := n1_; have BK396 := n2_; have GW396 := n3_; have GE396 := n4_; clear n0_ n1_ n2_ n3_ n4_; clear hb hbox hg; have hcz15_0 : w14.cell? ⟨gb396, 0, none⟩ = some (.string (⟨#[]⟩ : ByteArray)) := (blk_cell BK396.out 0).trans rfl; have hcz15_1 : w14.cell? ⟨gb396, 1, none⟩ = some (.string (⟨#[]⟩ : ByteArray)) := (blk_cell BK396.out 1).trans rfl; have hcz15_2 : w14.cell? ⟨gb396, 2, none⟩ = some (.string (⟨#[]⟩ : ByteArray)) := (blk_cell BK396.out 2).trans rfl; have hfz15_0 := blk_frozen BK396.out 0; have hfz15_1 := blk_frozen BK396.out 1; have hfz15_2 := blk_frozen BK396.out 2))
                go_roundg k1
                case measure => have := HK1.out; omega
                case rel => exact ⟨(x6_1), (wrap64 (x14_1 + 1)), (by first | rfl | (simp; done) | (simp [*]; done)), H', ⟨by have := HK1.out; omega⟩, ⟨by (with_reducible repeat (first | apply Kd.R_alloc | apply Kd.R_drewN | apply Kd.R_drew)); exact Kd.R_mono (Kd.R_far (p := ⟨gb396, 2, none⟩) (Kd.R_far (p := ⟨gb396, 1, none⟩) (Kd.R_far (p := ⟨gb396, 0, none⟩) (Kd.R_types HO_6.out BK396.out (by decide)) (fun _ hk => hk.2) (.string ((rd_T27 l0 x14_1).f0))) (fun _ hk => hk.2) (.string ((rd_T27 l0 x14_1).f1))) (fun _ hk => hk.2) (.string ((rd_T27 l0 x14_1).f2))) (fun _ hk => trivial)⟩, ⟨by repeat (first | (with_reducible first | exact HB.out | apply below_alloc | apply pw_below_drewN | apply below_drew1 | refine below_set ?_ GE396.out) | exact HB.out)⟩⟩
            · rw [if_neg c8] at H
              exact absurd H (by simp)
          · rw [if_neg c7] at H
            exact absurd H (by simp)
        · rw [if_neg c6] at H
          have c6b0 : decide (x14_1 < (l0.length : Int)) = false := decide_eq_false c6
          clear c6
          simp only [Option.some.injEq, Prod.mk.injEq] at H
          obtain ⟨rfl, rfl⟩ := H
          go_wp2
          go_ret2
          exact ⟨_, by first | rfl | (simp [errW_none, errW_some] <;> rfl) | (simp [*, errW_none, errW_some] <;> rfl), by (with_reducible repeat (first | apply Kd.R_alloc | apply Kd.R_drewN | apply Kd.R_drew)); exact HO_6.out, by repeat (first | (with_reducible first | exact HB.out | apply below_alloc | apply pw_below_drewN | apply below_drew1) | exact HB.out)⟩
  · replace c4 := Bool.eq_false_iff.mpr c4
    subst c4
    have H1 : (some (([] : List ByteArray), 1)) = some (r1, r2) := by rw [if_neg (show ¬ (false = true) by decide)] at H; exact H
    clear H
    have H := H1
    clear H1
    simp only [Option.some.injEq, Prod.mk.injEq] at H
    obtain ⟨rfl, rfl⟩ := H
    go_enter Try.func10, Try.ntmps10
    go_wp2_with (first | ((with_reducible refine gate_callee (f := 15) rfl ?_); refine goesL_ (some 10) rfl rfl Try.func15 (by kernel_rfl) rfl #[.slice A0 l0.length c0] rfl (by (try simp only [List.map_toArray, List.map_cons, List.map_nil]); first | done | rfl | (simp only [List.length_drop, List.length_take]; rfl)) ?_; (with_reducible refine (impl_ValidBlocks.calls k _ _ l0 false _ ?side1 ?side2 A3.out).mono ?_); (case side1 => repeat (first | exact HR0.out | (with_reducible refine Kd.C_alloc ?_ _) | (with_reducible refine Kd.C_drewN ?_ _) | (with_reducible refine Kd.C_drew ?_))); (case side2 => exact HC0.out); rintro e w16 ⟨rfl, hb⟩; refine ⟨_, rfl, ?_⟩; have n0_ := Aside0.mk (below_step (by repeat (first | (with_reducible first | exact HB.out | apply below_alloc | apply pw_below_drewN | apply below_drew1) | exact HB.out)) hb); clear HB; have HB := n0_; clear n0_; (try clear hb); (try clear hb2); (try clear hk); (try clear hi)))
    go_ret2
    exact ⟨_, by first | rfl | (simp [errW_none, errW_some] <;> rfl) | (simp [*, errW_none, errW_some] <;> rfl), by first | exact Kd.R_nil _ _ _ _ _ | exact Kd.N_nil _ _ _ _ _ | exact Kd.V_nil _ _ _ _ _ | exact Kd.Q_nil _ _ _ _ _ | exact Kd.S_nil _ _ _ _ _, by repeat (first | (with_reducible first | exact HB.out | apply below_alloc | apply pw_below_drewN | apply below_drew1) | exact HB.out)⟩

end Go.Proofs.Ytocaadjpibepaaa.P

-- printed by a program of this session out of the translation
namespace Go.Proofs.Ytocaadjpibepaaa.P
open Go.RowKit Go.Proofs.YtocaadjpibepaaaW.PrintWords Go.Proofs.YtocaadjpibepaaaW.PrintLast Go.Proofs.YtocaadjpibepaaaW.PrintMore
attribute [local go_sem] max2_int min2_int max_two min_two max_three min_three max_four min_four   -- for this text's walks alone
set_option linter.unusedVariables false
set_option linter.unusedSimpArgs false

theorem eqA27 (d : Nat) (w : World) (x0 y0 : ByteArray) (x1 y1 : ByteArray) (x2 y2 : ByteArray) :
    (Op.equalIn (d + 2) 27 (.agg #[.string x0, .string x1, .string x2]) (.agg #[.string y0, .string y1, .string y2])).run Try.prog w = .ok (x0.toList == y0.toList && (x1.toList == y1.toList && (x2.toList == y2.toList))) w := by
  refine eqA_of Try.underlying27 (by kernel_rfl) ?_
  refine eqf_cons (by rfl) (by go_simp; rfl) (by go_simp; rfl) (by go_simp) ?_
  refine eqf_cons (by rfl) (by go_simp; rfl) (by go_simp; rfl) (by go_simp) ?_
  exact eqf_last (by rfl) (by go_simp; rfl) (by go_simp; rfl) (by go_simp)
end Go.Proofs.Ytocaadjpibepaaa.P

-- printed by a program of this session out of the translation
namespace Go.Proofs.Ytocaadjpibepaaa.P
open Go.RowKit Go.Proofs.YtocaadjpibepaaaW.PrintWords Go.Proofs.YtocaadjpibepaaaW.PrintLast Go.Proofs.YtocaadjpibepaaaW.PrintMore
attribute [local go_sem] max2_int min2_int max_two min_two max_three min_three max_four min_four   -- for this text's walks alone
set_option linter.unusedVariables false
set_option linter.unusedSimpArgs false

attribute [local go_sem high] eqA27
/-! ### spec_l29Same: function 22 -/
def spec_l29Same.l0 : Nat → List (S27) → List (S27) → Int → Option (Bool)
  | 0, _, _, _ => none
  | k + 1, x0, x1, x5 => if x5 < (x0.length : Int) then (if 0 ≤ x5 then (if x5 < (x1.length : Int) then (if (!((((rd_T27 x0 x5).f0).toList) == (((rd_T27 x1 x5).f0).toList)) || (!((((rd_T27 x0 x5).f1).toList) == (((rd_T27 x1 x5).f1).toList)) || (!((((rd_T27 x0 x5).f2).toList) == (((rd_T27 x1 x5).f2).toList))))) = true then (some false) else (spec_l29Same.l0 k x0 x1 (wrap64 (x5 + 1)))) else (none)) else (none)) else (some true)
def spec_l29Same.f (k : Nat) (l0 : List (S27)) (l1 : List (S27)) : Option (Bool) := if (l0.length : Int) = (l1.length : Int) then (spec_l29Same.l0 k l0 l1 0) else (some false)
theorem spec_l29Same.mono_l : ∀ k, (∀ y0 y1 y2, LeO (spec_l29Same.l0 k y0 y1 y2) (spec_l29Same.l0 (k + 1) y0 y1 y2))
  | 0 => fun _ _ _ r h => by simp [spec_l29Same.l0] at h
  | k + 1 => by
    have ih0 := spec_l29Same.mono_l k
    · intro y0 y1 y2
      unfold spec_l29Same.l0
      repeat' first
      | (with_reducible exact ih0 _ _ _)
      | (with_reducible exact LeO.refl _)
      | (with_reducible exact LeO.none _)
      | (with_reducible refine LeO.ite ?_ ?_)
      | (with_reducible refine LeO.bind ?_ (fun _ => ?_))
      | exact ih0 _ _ _
      | exact LeO.none _
      | refine LeO.ite ?_ ?_
      | refine LeO.bind ?_ (fun _ => ?_)
theorem spec_l29Same.mono : ∀ a0 a1 k, LeO (spec_l29Same.f k a0 a1) (spec_l29Same.f (k + 1) a0 a1) := by
  intro a0 a1 k
  have ih0 := spec_l29Same.mono_l k
  unfold spec_l29Same.f
  repeat' first
      | (with_reducible exact ih0 _ _ _)
      | (with_reducible exact LeO.refl _)
      | (with_reducible exact LeO.none _)
      | (with_reducible refine LeO.ite ?_ ?_)
      | (with_reducible refine LeO.bind ?_ (fun _ => ?_))
      | exact ih0 _ _ _
      | exact LeO.none _
      | refine LeO.ite ?_ ?_
      | refine LeO.bind ?_ (fun _ => ?_)
set_option maxHeartbeats 8000000 in
set_option maxRecDepth 100000 in
theorem spec_l29Same.calls (k : Nat) (A0 : Option Addr) (c0 : Nat) (l0 : List (S27)) (A1 : Option Addr) (c1 : Nat) (l1 : List (S27)) (r : Bool) (w : World) (hr0 : Kd.C k27 w A0 l0.length l0) (hc0 : l0.length ≤ c0) (hr1 : Kd.C k27 w A1 l1.length l1) (hc1 : l1.length ≤ c1) (h : spec_l29Same.f k l0 l1 = some r) :
    Calls Try.prog 22 #[.slice A0 l0.length c0, .slice A1 l1.length c1] w fun e w' => e = .returned (.bool r) ∧ Drawn0 w w' := by
  have hu27 := Try.underlying27
  have HR0 := Aside0.mk hr0
  have HC0 := Aside0.mk hc0
  clear hr0 hc0
  have HR1 := Aside0.mk hr1
  have HC1 := Aside0.mk hc1
  clear hr1 hc1
  have H : (if (l0.length : Int) = (l1.length : Int) then (spec_l29Same.l0 k l0 l1 0) else (some false)) = some r := h
  clear h
  by_cases c3 : (l0.length : Int) = (l1.length : Int)
  · rw [if_pos c3] at H
    have c3b0 : ((l0.length : Int) == (l1.length : Int)) = true := beq_iff_eq.mpr c3
    have c3b1 : ((l0.length : Int) != (l1.length : Int)) = false := bne_eq_false_iff_eq.mpr c3
    have c3b2 : (l0.length == l1.length) = true := by first | simpa using c3 | (simp at c3 ⊢; omega)
    clear c3
    have H' := Aside0.mk H
    clear H
    go_enter Try.func22, Try.ntmps22
    go_wp2
    repeat (go_quiet (fail); try go_wp2)
    go_loopg [5] k (fun kq v5 w' => ∃ (x5_1 : Int), v5 = .int .i64 x5_1 ∧ Aside0 (spec_l29Same.l0 kq l0 l1 x5_1 = some r) ∧ Aside0 (kq ≤ k) ∧ Drawn0 w w')
    case atStart => exact ⟨(0), (by first | rfl | (simp; done) | (simp [*]; done)), H', ⟨Nat.le_refl _⟩, by repeat (first | exact Drawn0.refl _ | apply Drawn0.step)⟩
    case round =>
      clear H'
      try clear c1
      try clear c2
      try clear p2
      try clear c3
      try clear c3b0
      try clear c3b1
      try clear c3b2
      obtain ⟨x5_1, rfl, HA, HK1, ⟨m1, rfl⟩⟩ := hrel
      cases gk with
      | zero => exact absurd HA.out (by simp [spec_l29Same.l0])
      | succ k1 =>
        have H := HA.out
        clear HA
        simp only [spec_l29Same.l0] at H
        by_cases c4 : x5_1 < (l0.length : Int)
        · rw [if_pos c4] at H
          have c4b0 : decide (x5_1 < (l0.length : Int)) = true := decide_eq_true c4
          clear c4
          by_cases c5 : 0 ≤ x5_1
          · rw [if_pos c5] at H
            have c5b0 : decide (0 ≤ x5_1) = true := decide_eq_true c5
            clear c5
            by_cases c6 : x5_1 < (l1.length : Int)
            · rw [if_pos c6] at H
              have c6b0 : decide (x5_1 < (l1.length : Int)) = true := decide_eq_true c6
              clear c6
              by_cases c7 : (!((((rd_T27 l0 x5_1).f0).toList) == (((rd_T27 l1 x5_1).f0).toList)) || (!((((rd_T27 l0 x5_1).f1).toList) == (((rd_T27 l1 x5_1).f1).toList)) || (!((((rd_T27 l0 x5_1).f2).toList) == (((rd_T27 l1 x5_1).f2).toList))))) = true
              · rw [if_pos c7] at H
                have c7b0 : (!((((rd_T27 l0 x5_1).f0).toList) == (((rd_T27 l1 x5_1).f0).toList)) || (!((((rd_T27 l0 x5_1).f1).toList) == (((rd_T27 l1 x5_1).f1).toList)) || (!((((rd_T27 l0 x5_1).f2).toList) == (((rd_T27 l1 x5_1).f2).toList))))) = true := c7
                clear c7
                obtain rfl := Option.some.inj H
                have p400 : 0 ≤ (x5_1 : Int) := of_decide_eq_true (by first | (with_reducible assumption) | assumption)
                have q400 : x5_1 < (l0.length : Int) := of_decide_eq_true (by first | (with_reducible assumption) | assumption)
                obtain ⟨ad400, e400, hx400_0, hx400_1, hx400_2⟩ := at_T27 HR0.out x5_1 p400 q400
                cases e400
                replace p400 := eq_true p400
                replace q400 := eq_true q400
                have p401 : 0 ≤ (x5_1 : Int) := of_decide_eq_true (by first | (with_reducible assumption) | assumption)
                have q401 : x5_1 < (l1.length : Int) := of_decide_eq_true (by first | (with_reducible assumption) | assumption)
                obtain ⟨ad401, e401, hx401_0, hx401_1, hx401_2⟩ := at_T27 HR1.out x5_1 p401 q401
                cases e401
                replace p401 := eq_true p401
                replace q401 := eq_true q401
                go_wp2
                repeat (go_quiet (fail); try go_wp2)
                go_ret
                exact ⟨by first | rfl | (simp; done) | (simp [*]; done), by repeat (first | exact Drawn0.refl _ | apply Drawn0.step)⟩
              · rw [if_neg c7] at H
                have c7b0 : (!((((rd_T27 l0 x5_1).f0).toList) == (((rd_T27 l1 x5_1).f0).toList)) || (!((((rd_T27 l0 x5_1).f1).toList) == (((rd_T27 l1 x5_1).f1).toList)) || (!((((rd_T27 l0 x5_1).f2).toList) == (((rd_T27 l1 x5_1).f2).toList))))) = false := by simpa using c7
                clear c7
                have H' := Aside0.mk H
                clear H
                have p400 : 0 ≤ (x5_1 : Int) := of_decide_eq_true (by first | (with_reducible assumption) | assumption)
                have q400 : x5_1 < (l0.length : Int) := of_decide_eq_true (by first | (with_reducible assumption) | assumption)
                obtain ⟨ad400, e400, hx400_0, hx400_1, hx400_2⟩ := at_T27 HR0.out x5_1 p400 q400
                cases e400
                replace p400 := eq_true p400
                replace q400 := eq_true q400
                have p401 : 0 ≤ (x5_1 : Int) := of_decide_eq_true (by first | (with_reducible assumption) | assumption)
                have q401 : x5_1 < (l1.length : Int) := of_decide_eq_true (by first | (with_reducible assumption) | assumption)
                obtain ⟨ad401, e401, hx401_0, hx401_1, hx401_2⟩ := at_T27 HR1.out x5_1 p401 q401
                cases e401
                replace p401 := eq_true p401
                replace q401 := eq_true q401
                go_wp2
                repeat (go_quiet (fail); try go_wp2)
                go_roundg k1
                case measure => have := HK1.out; omega
                case rel => exact ⟨(wrap64 (x5_1 + 1)), (by first | rfl | (simp; done) | (simp [*]; done)), H', ⟨by have := HK1.out; omega⟩, by repeat (first | exact Drawn0.refl _ | apply Drawn0.step)⟩
            · rw [if_neg c6] at H
              exact absurd H (by simp)
          · rw [if_neg c5] at H
            exact absurd H (by simp)
        · rw [if_neg c4] at H
          have c4b0 : decide (x5_1 < (l0.length : Int)) = false := decide_eq_false c4
          clear c4
          obtain rfl := Option.some.inj H
          go_wp2
          repeat (go_quiet (fail); try go_wp2)
          go_ret
          exact ⟨by first | rfl | (simp; done) | (simp [*]; done), by repeat (first | exact Drawn0.refl _ | apply Drawn0.step)⟩
  · rw [if_neg c3] at H
    have c3b0 : ((l0.length : Int) == (l1.length : Int)) = false := beq_eq_false_iff_ne.mpr c3
    have c3b1 : ((l0.length : Int) != (l1.length : Int)) = true := bne_iff_ne.mpr c3
    have c3b2 : (l0.length == l1.length) = false := by first | simpa using c3 | (simp at c3 ⊢; omega)
    obtain rfl := Option.some.inj H
    go_enter Try.func22, Try.ntmps22
    go_wp2
    repeat (go_quiet (fail); try go_wp2)
    go_ret
    exact ⟨by first | rfl | (simp; done) | (simp [*]; done), by repeat (first | exact Drawn0.refl _ | apply Drawn0.step)⟩

end Go.Proofs.Ytocaadjpibepaaa.P

-- printed by a program of this session out of the translation
namespace Go.Proofs.Ytocaadjpibepaaa.P
open Go.RowKit Go.Proofs.YtocaadjpibepaaaW.PrintWords Go.Proofs.YtocaadjpibepaaaW.PrintLast Go.Proofs.YtocaadjpibepaaaW.PrintMore
attribute [local go_sem] max2_int min2_int max_two min_two max_three min_three max_four min_four   -- for this text's walks alone
set_option linter.unusedVariables false
set_option linter.unusedSimpArgs false

/-! ### spec_SameBlocks: function 11 -/
def spec_SameBlocks.f (k : Nat) (l0 : List (S27)) (l1 : List (S27)) : Option (Bool) := (spec_l29Same.f k l0 l1).bind fun t402 => (some t402)
theorem spec_SameBlocks.mono : ∀ a0 a1 k, LeO (spec_SameBlocks.f k a0 a1) (spec_SameBlocks.f (k + 1) a0 a1) := by
  intro a0 a1 k
  unfold spec_SameBlocks.f
  repeat' first
      | (with_reducible exact spec_l29Same.mono _ _ _)
      | (with_reducible exact LeO.refl _)
      | (with_reducible exact LeO.none _)
      | (with_reducible refine LeO.ite ?_ ?_)
      | (with_reducible refine LeO.bind ?_ (fun _ => ?_))
      | exact spec_l29Same.mono _ _ _
      | exact LeO.none _
      | refine LeO.ite ?_ ?_
      | refine LeO.bind ?_ (fun _ => ?_)
set_option maxHeartbeats 8000000 in
set_option maxRecDepth 100000 in
theorem spec_SameBlocks.calls (k : Nat) (A0 : Option Addr) (c0 : Nat) (l0 : List (S27)) (A1 : Option Addr) (c1 : Nat) (l1 : List (S27)) (r : Bool) (w : World) (hr0 : Kd.C k27 w A0 l0.length l0) (hc0 : l0.length ≤ c0) (hr1 : Kd.C k27 w A1 l1.length l1) (hc1 : l1.length ≤ c1) (h : spec_SameBlocks.f k l0 l1 = some r) :
    Calls Try.prog 11 #[.slice A0 l0.length c0, .slice A1 l1.length c1] w fun e w' => e = .returned (.bool r) ∧ Drawn0 w w' := by
  have HR0 := Aside0.mk hr0
  have HC0 := Aside0.mk hc0
  clear hr0 hc0
  have HR1 := Aside0.mk hr1
  have HC1 := Aside0.mk hc1
  clear hr1 hc1
  have H : ((spec_l29Same.f k l0 l1).bind fun t402 => (some t402)) = some r := h
  clear h
  replace H := Option.bind_eq_some_iff.mp H
  obtain ⟨t402, A30, H⟩ := H
  replace H : (some t402) = some r := H
  have A3 := Aside0.mk A30
  clear A30
  obtain rfl := Option.some.inj H
  go_enter Try.func11, Try.ntmps11
  go_wp2_with (first | ((with_reducible refine gate_callee (f := 22) rfl ?_); refine goesL_ (some 7) rfl rfl Try.func22 (by kernel_rfl) rfl #[.slice A0 l0.length c0, .slice A1 l1.length c1] rfl (by (try simp only [List.map_toArray, List.map_cons, List.map_nil]); first | done | rfl | (simp only [List.length_drop, List.length_take]; rfl)) ?_; (with_reducible refine (spec_l29Same.calls k _ _ l0 _ _ l1 t402 _ ?side1 ?side2 ?side3 ?side4 A3.out).mono ?_); (case side1 => repeat (first | exact HR0.out | (with_reducible refine Kd.C_alloc ?_ _) | (with_reducible refine Kd.C_drewN ?_ _) | (with_reducible refine Kd.C_drew ?_))); (case side2 => exact HC0.out); (case side3 => repeat (first | exact HR1.out | (with_reducible refine Kd.C_alloc ?_ _) | (with_reducible refine Kd.C_drewN ?_ _) | (with_reducible refine Kd.C_drew ?_))); (case side4 => exact HC1.out); rintro e w' ⟨rfl, ⟨nd, rfl⟩⟩; refine ⟨_, rfl, ?_⟩))
  go_ret
  exact ⟨by first | rfl | (simp; done) | (simp [*]; done), by repeat (first | exact Drawn0.refl _ | apply Drawn0.step)⟩

end Go.Proofs.Ytocaadjpibepaaa.P

-- printed by a program of this session out of the translation
namespace Go.Proofs.Ytocaadjpibepaaa.P
open Go.RowKit Go.Proofs.YtocaadjpibepaaaW.PrintWords Go.Proofs.YtocaadjpibepaaaW.PrintLast Go.Proofs.YtocaadjpibepaaaW.PrintMore
attribute [local go_sem] max2_int min2_int max_two min_two max_three min_three max_four min_four   -- for this text's walks alone
set_option linter.unusedVariables false
set_option linter.unusedSimpArgs false

/-! ### spec_ValidBlocks: function 12 -/
def spec_ValidBlocks.f (k : Nat) (l0 : List (S27)) : Option (Bool) := (spec_l29Ok.f k l0).bind fun t403 => (some t403)
theorem spec_ValidBlocks.mono : ∀ a0 k, LeO (spec_ValidBlocks.f k a0) (spec_ValidBlocks.f (k + 1) a0) := by
  intro a0 k
  unfold spec_ValidBlocks.f
  repeat' first
      | (with_reducible exact spec_l29Ok.mono _ _)
      | (with_reducible exact LeO.refl _)
      | (with_reducible exact LeO.none _)
      | (with_reducible refine LeO.ite ?_ ?_)
      | (with_reducible refine LeO.bind ?_ (fun _ => ?_))
      | exact spec_l29Ok.mono _ _
      | exact LeO.none _
      | refine LeO.ite ?_ ?_
      | refine LeO.bind ?_ (fun _ => ?_)
set_option maxHeartbeats 8000000 in
set_option maxRecDepth 100000 in
theorem spec_ValidBlocks.calls (k : Nat) (A0 : Option Addr) (c0 : Nat) (l0 : List (S27)) (r : Bool) (w : World) (hr0 : Kd.C k27 w A0 l0.length l0) (hc0 : l0.length ≤ c0) (h : spec_ValidBlocks.f k l0 = some r) :
    Calls Try.prog 12 #[.slice A0 l0.length c0] w fun e w' => e = .returned (.bool r) ∧ Drawn0 w w' := by
  have HR0 := Aside0.mk hr0
  have HC0 := Aside0.mk hc0
  clear hr0 hc0
  have H : ((spec_l29Ok.f k l0).bind fun t403 => (some t403)) = some r := h
  clear h
  replace H := Option.bind_eq_some_iff.mp H
  obtain ⟨t403, A20, H⟩ := H
  replace H : (some t403) = some r := H
  have A2 := Aside0.mk A20
  clear A20
  obtain rfl := Option.some.inj H
  go_enter Try.func12, Try.ntmps12
  go_wp2_with (first | ((with_reducible refine gate_callee (f := 23) rfl ?_); refine goesL_ (some 4) rfl rfl Try.func23 (by kernel_rfl) rfl #[.slice A0 l0.length c0] rfl (by (try simp only [List.map_toArray, List.map_cons, List.map_nil]); first | done | rfl | (simp only [List.length_drop, List.length_take]; rfl)) ?_; (with_reducible refine (spec_l29Ok.calls k _ _ l0 t403 _ ?side1 ?side2 A2.out).mono ?_); (case side1 => repeat (first | exact HR0.out | (with_reducible refine Kd.C_alloc ?_ _) | (with_reducible refine Kd.C_drewN ?_ _) | (with_reducible refine Kd.C_drew ?_))); (case side2 => exact HC0.out); rintro e w' ⟨rfl, ⟨nd, rfl⟩⟩; refine ⟨_, rfl, ?_⟩))
  go_ret
  exact ⟨by first | rfl | (simp; done) | (simp [*]; done), by repeat (first | exact Drawn0.refl _ | apply Drawn0.step)⟩

end Go.Proofs.Ytocaadjpibepaaa.P

-- printed by a program of this session out of the translation
namespace Go.Proofs.Ytocaadjpibepaaa.P
open Go.RowKit Go.Proofs.YtocaadjpibepaaaW.PrintWords Go.Proofs.YtocaadjpibepaaaW.PrintLast Go.Proofs.YtocaadjpibepaaaW.PrintMore
attribute [local go_sem] max2_int min2_int max_two min_two max_three min_three max_four min_four   -- for this text's walks alone
set_option linter.unusedVariables false
set_option linter.unusedSimpArgs false

/-! ### laws_FnBlocks: function 3 -/
mutual
def laws_FnBlocks.j0 : Nat → List (S27) → List (S27) → List (S27) → Bool → Option (Bool)
  | 0, _, _, _, _ => none
  | k + 1, x5, x6, x14, x93 => if x93 = true then (some false) else (laws_FnBlocks.l0 k x5 x6 x14 0)
def laws_FnBlocks.l0 : Nat → List (S27) → List (S27) → List (S27) → Int → Option (Bool)
  | 0, _, _, _, _ => none
  | k + 1, x5, x6, x14, x18 => if x18 < (x6.length : Int) then (if 0 ≤ x18 then ((impl_BlockNamed.f k x14 ((rd_T27 x6 x18).f0) ((rd_T27 x6 x18).f1)).bind fun bt434 => (if bt434.2 = 0 then (if bt434.1.toList = ((rd_T27 x6 x18).f2).toList then (laws_FnBlocks.l0 k x5 x6 x14 (wrap64 (x18 + 1))) else (some false)) else (some false))) else (none)) else (some (decide ((x14.length : Int) ≤ (wrap64 ((x5.length : Int) + (x6.length : Int))))))
end
def laws_FnBlocks.f (k : Nat) (l0 : List Int) (l1 : List Int) : Option (Bool) := (laws_r8Long.f l0 l1).bind fun t404 => (if t404 = true then (some true) else ((spec_R8Blocks.f k l0).bind fun t405 => ((spec_R8Blocks.f k l1).bind fun t408 => ((impl_PutBlock.f k t405 (⟨#[110, 101, 119]⟩ : ByteArray) (⟨#[120]⟩ : ByteArray) (⟨#[116]⟩ : ByteArray)).bind fun bt412 => ((impl_BlockNamed.f k bt412.1 (⟨#[110, 101, 119]⟩ : ByteArray) (⟨#[120]⟩ : ByteArray)).bind fun bt416 => ((impl_DropBlock.f k bt412.1 (⟨#[110, 101, 119]⟩ : ByteArray) (⟨#[120]⟩ : ByteArray)).bind fun bt418 => ((impl_MergeBlocks.f k t405 t408).bind fun bt422 => ((impl_BlocksOfKind.f k bt412.1 (⟨#[110, 101, 119]⟩ : ByteArray)).bind fun bt426 => (if bt412.2 = 0 then (if bt416.2 = 0 then (if bt416.1.toList = ([116] : List UInt8) then (if bt418.2 = 0 then ((spec_SameBlocks.f k bt418.1 t405).bind fun t430 => (if t430 = true then (if bt422.2 = 0 then ((spec_ValidBlocks.f k bt422.1).bind fun t431 => (if t431 = true then (if bt426.2 = 0 then (laws_FnBlocks.j0 k t405 t408 bt422.1 ((bt426.1.length : Int) != 1)) else (laws_FnBlocks.j0 k t405 t408 bt422.1 true)) else (laws_FnBlocks.j0 k t405 t408 bt422.1 true))) else (laws_FnBlocks.j0 k t405 t408 bt422.1 true)) else (laws_FnBlocks.j0 k t405 t408 bt422.1 true))) else (laws_FnBlocks.j0 k t405 t408 bt422.1 true)) else (laws_FnBlocks.j0 k t405 t408 bt422.1 true)) else (laws_FnBlocks.j0 k t405 t408 bt422.1 true)) else (laws_FnBlocks.j0 k t405 t408 bt422.1 true))))))))))
theorem laws_FnBlocks.mono_l : ∀ k, (∀ y0 y1 y2 y3, LeO (laws_FnBlocks.j0 k y0 y1 y2 y3) (laws_FnBlocks.j0 (k + 1) y0 y1 y2 y3)) ∧ (∀ y0 y1 y2 y3, LeO (laws_FnBlocks.l0 k y0 y1 y2 y3) (laws_FnBlocks.l0 (k + 1) y0 y1 y2 y3))
  | 0 => ⟨fun _ _ _ _ r h => by simp [laws_FnBlocks.j0] at h, fun _ _ _ _ r h => by simp [laws_FnBlocks.l0] at h⟩
  | k + 1 => by
    obtain ⟨ih0, ih1⟩ := laws_FnBlocks.mono_l k
    refine ⟨?_, ?_⟩
    · intro y0 y1 y2 y3
      unfold laws_FnBlocks.j0
      repeat' first
      | (with_reducible exact ih0 _ _ _ _)
      | (with_reducible exact ih1 _ _ _ _)
      | (with_reducible exact impl_BlockNamed.mono _ _ _ _)
      | (with_reducible exact impl_BlocksOfKind.mono _ _ _)
      | (with_reducible exact impl_DropBlock.mono _ _ _ _)
      | (with_reducible exact impl_MergeBlocks.mono _ _ _)
      | (with_reducible exact impl_PutBlock.mono _ _ _ _ _)
      | (with_reducible exact spec_R8Blocks.mono _ _)
      | (with_reducible exact spec_SameBlocks.mono _ _ _)
      | (with_reducible exact spec_ValidBlocks.mono _ _)
      | (with_reducible exact LeO.refl _)
      | (with_reducible exact LeO.none _)
      | (with_reducible refine LeO.ite ?_ ?_)
      | (with_reducible refine LeO.bind ?_ (fun _ => ?_))
      | exact ih0 _ _ _ _
      | exact ih1 _ _ _ _
      | exact impl_BlockNamed.mono _ _ _ _
      | exact impl_BlocksOfKind.mono _ _ _
      | exact impl_DropBlock.mono _ _ _ _
      | exact impl_MergeBlocks.mono _ _ _
      | exact impl_PutBlock.mono _ _ _ _ _
      | exact spec_R8Blocks.mono _ _
      | exact spec_SameBlocks.mono _ _ _
      | exact spec_ValidBlocks.mono _ _
      | exact LeO.none _
      | refine LeO.ite ?_ ?_
      | refine LeO.bind ?_ (fun _ => ?_)
    · intro y0 y1 y2 y3
      unfold laws_FnBlocks.l0
      repeat' first
      | (with_reducible exact ih0 _ _ _ _)
      | (with_reducible exact ih1 _ _ _ _)
      | (with_reducible exact impl_BlockNamed.mono _ _ _ _)
      | (with_reducible exact impl_BlocksOfKind.mono _ _ _)
      | (with_reducible exact impl_DropBlock.mono _ _ _ _)
      | (with_reducible exact impl_MergeBlocks.mono _ _ _)
      | (with_reducible exact impl_PutBlock.mono _ _ _ _ _)
      | (with_reducible exact spec_R8Blocks.mono _ _)
      | (with_reducible exact spec_SameBlocks.mono _ _ _)
      | (with_reducible exact spec_ValidBlocks.mono _ _)
      | (with_reducible exact LeO.refl _)
      | (with_reducible exact LeO.none _)
      | (with_reducible refine LeO.ite ?_ ?_)
      | (with_reducible refine LeO.bind ?_ (fun _ => ?_))
      | exact ih0 _ _ _ _
      | exact ih1 _ _ _ _
      | exact impl_BlockNamed.mono _ _ _ _
      | exact impl_BlocksOfKind.mono _ _ _
      | exact impl_DropBlock.mono _ _ _ _
      | exact impl_MergeBlocks.mono _ _ _
      | exact impl_PutBlock.mono _ _ _ _ _
      | exact spec_R8Blocks.mono _ _
      | exact spec_SameBlocks.mono _ _ _
      | exact spec_ValidBlocks.mono _ _
      | exact LeO.none _
      | refine LeO.ite ?_ ?_
      | refine LeO.bind ?_ (fun _ => ?_)
theorem laws_FnBlocks.mono : ∀ a0 a1 k, LeO (laws_FnBlocks.f k a0 a1) (laws_FnBlocks.f (k + 1) a0 a1) := by
  intro a0 a1 k
  obtain ⟨ih0, ih1⟩ := laws_FnBlocks.mono_l k
  unfold laws_FnBlocks.f
  repeat' first
      | (with_reducible exact ih0 _ _ _ _)
      | (with_reducible exact ih1 _ _ _ _)
      | (with_reducible exact impl_BlockNamed.mono _ _ _ _)
      | (with_reducible exact impl_BlocksOfKind.mono _ _ _)
      | (with_reducible exact impl_DropBlock.mono _ _ _ _)
      | (with_reducible exact impl_MergeBlocks.mono _ _ _)
      | (with_reducible exact impl_PutBlock.mono _ _ _ _ _)
      | (with_reducible exact spec_R8Blocks.mono _ _)
      | (with_reducible exact spec_SameBlocks.mono _ _ _)
      | (with_reducible exact spec_ValidBlocks.mono _ _)
      | (with_reducible exact LeO.refl _)
      | (with_reducible exact LeO.none _)
      | (with_reducible refine LeO.ite ?_ ?_)
      | (with_reducible refine LeO.bind ?_ (fun _ => ?_))
      | exact ih0 _ _ _ _
      | exact ih1 _ _ _ _
      | exact impl_BlockNamed.mono _ _ _ _
      | exact impl_BlocksOfKind.mono _ _ _
      | exact impl_DropBlock.mono _ _ _ _
      | exact impl_MergeBlocks.mono _ _ _
      | exact impl_PutBlock.mono _ _ _ _ _
      | exact spec_R8Blocks.mono _ _
      | exact spec_SameBlocks.mono _ _ _
      | exact spec_ValidBlocks.mono _ _
      | exact LeO.none _
      | refine LeO.ite ?_ ?_
      | refine LeO.bind ?_ (fun _ => ?_)
def laws_FnBlocks.T16 : Bool × List (List Nat × List Nat) := (true, [([], []), ([], []), ([], []), ([1, 2], [1, 2]), ([3], [3]), ([4], [4]), ([], []), ([], []), ([6, 7], [6, 7]), ([8], [8]), ([9], [9]), ([0, 5, 10], [0, 5, 10]), ([11], [11]), ([12], [12]), ([12], [12]), ([13, 11, 0, 1, 2, 3, 4, 5, 6, 7, 8, 9, 10, 11, 12, 13], [13]), ([14, 15, 0, 1, 2, 3, 4, 5, 6, 7, 8, 9, 10, 11, 12, 13, 14, 15], [14])])
def laws_FnBlocks.B16 : List Nat := [0, 0, 0, 6, 14, 30, 0, 0, 192, 448, 960, 2047, 4095, 8191, 8191, 16383, 65535]
theorem laws_FnBlocks.tab16 : rtab .any (opsOf Try.f3 16) = laws_FnBlocks.T16 := by kernel_rfl
theorem laws_FnBlocks.bits16 : waitsOk laws_FnBlocks.T16.2 laws_FnBlocks.B16 = true := by kernel_rfl
set_option maxHeartbeats 8000000 in
set_option maxRecDepth 100000 in
theorem laws_FnBlocks.calls (k : Nat) (A0 : Option Addr) (c0 : Nat) (l0 : List Int) (A1 : Option Addr) (c1 : Nat) (l1 : List Int) (r : Bool) (w : World) (hr0 : Kd.C (Kd.int .u8) w A0 l0.length l0) (hc0 : l0.length ≤ c0) (hr1 : Kd.C (Kd.int .u8) w A1 l1.length l1) (hc1 : l1.length ≤ c1) (h : laws_FnBlocks.f k l0 l1 = some r) :
    Calls Try.prog 3 #[.slice A0 l0.length c0, .slice A1 l1.length c1] w fun e w' => e = .returned (.bool r) ∧ Below w.heap.size w w' := by
  have hu27 := Try.underlying27
  have HR0 := Aside0.mk hr0
  have HC0 := Aside0.mk hc0
  clear hr0 hc0
  have HR1 := Aside0.mk hr1
  have HC1 := Aside0.mk hc1
  clear hr1 hc1
  have HB := Aside0.mk (Below.refl w.heap.size w)
  have H : ((laws_r8Long.f l0 l1).bind fun t404 => (if t404 = true then (some true) else ((spec_R8Blocks.f k l0).bind fun t405 => ((spec_R8Blocks.f k l1).bind fun t408 => ((impl_PutBlock.f k t405 (⟨#[110, 101, 119]⟩ : ByteArray) (⟨#[120]⟩ : ByteArray) (⟨#[116]⟩ : ByteArray)).bind fun bt412 => ((impl_BlockNamed.f k bt412.1 (⟨#[110, 101, 119]⟩ : ByteArray) (⟨#[120]⟩ : ByteArray)).bind fun bt416 => ((impl_DropBlock.f k bt412.1 (⟨#[110, 101, 119]⟩ : ByteArray) (⟨#[120]⟩ : ByteArray)).bind fun bt418 => ((impl_MergeBlocks.f k t405 t408).bind fun bt422 => ((impl_BlocksOfKind.f k bt412.1 (⟨#[110, 101, 119]⟩ : ByteArray)).bind fun bt426 => (if bt412.2 = 0 then (if bt416.2 = 0 then (if bt416.1.toList = ([116] : List UInt8) then (if bt418.2 = 0 then ((spec_SameBlocks.f k bt418.1 t405).bind fun t430 => (if t430 = true then (if bt422.2 = 0 then ((spec_ValidBlocks.f k bt422.1).bind fun t431 => (if t431 = true then (if bt426.2 = 0 then (laws_FnBlocks.j0 k t405 t408 bt422.1 ((bt426.1.length : Int) != 1)) else (laws_FnBlocks.j0 k t405 t408 bt422.1 true)) else (laws_FnBlocks.j0 k t405 t408 bt422.1 true))) else (laws_FnBlocks.j0 k t405 t408 bt422.1 true)) else (laws_FnBlocks.j0 k t405 t408 bt422.1 true))) else (laws_FnBlocks.j0 k t405 t408 bt422.1 true)) else (laws_FnBlocks.j0 k t405 t408 bt422.1 true)) else (laws_FnBlocks.j0 k t405 t408 bt422.1 true)) else (laws_FnBlocks.j0 k t405 t408 bt422.1 true))))))))))) = some r := h
  clear h
  replace H := Option.bind_eq_some_iff.mp H
  obtain ⟨t404, A30, H⟩ := H
  replace H : (if t404 = true then (some true) else ((spec_R8Blocks.f k l0).bind fun t405 => ((spec_R8Blocks.f k l1).bind fun t408 => ((impl_PutBlock.f k t405 (⟨#[110, 101, 119]⟩ : ByteArray) (⟨#[120]⟩ : ByteArray) (⟨#[116]⟩ : ByteArray)).bind fun bt412 => ((impl_BlockNamed.f k bt412.1 (⟨#[110, 101, 119]⟩ : ByteArray) (⟨#[120]⟩ : ByteArray)).bind fun bt416 => ((impl_DropBlock.f k bt412.1 (⟨#[110, 101, 119]⟩ : ByteArray) (⟨#[120]⟩ : ByteArray)).bind fun bt418 => ((impl_MergeBlocks.f k t405 t408).bind fun bt422 => ((impl_BlocksOfKind.f k bt412.1 (⟨#[110, 101, 119]⟩ : ByteArray)).bind fun bt426 => (if bt412.2 = 0 then (if bt416.2 = 0 then (if bt416.1.toList = ([116] : List UInt8) then (if bt418.2 = 0 then ((spec_SameBlocks.f k bt418.1 t405).bind fun t430 => (if t430 = true then (if bt422.2 = 0 then ((spec_ValidBlocks.f k bt422.1).bind fun t431 => (if t431 = true then (if bt426.2 = 0 then (laws_FnBlocks.j0 k t405 t408 bt422.1 ((bt426.1.length : Int) != 1)) else (laws_FnBlocks.j0 k t405 t408 bt422.1 true)) else (laws_FnBlocks.j0 k t405 t408 bt422.1 true))) else (laws_FnBlocks.j0 k t405 t408 bt422.1 true)) else (laws_FnBlocks.j0 k t405 t408 bt422.1 true))) else (laws_FnBlocks.j0 k t405 t408 bt422.1 true)) else (laws_FnBlocks.j0 k t405 t408 bt422.1 true)) else (laws_FnBlocks.j0 k t405 t408 bt422.1 true)) else (laws_FnBlocks.j0 k t405 t408 bt422.1 true)))))))))) = some r := H
  have A3 := Aside0.mk A30
  clear A30
  by_cases c4 : t404 = true
  · subst c4
    have H1 : (some true) = some r := by rw [if_pos rfl] at H; exact H
    clear H
    have H := H1
    clear H1
    obtain rfl := Option.some.inj H
    go_enter Try.func3, Try.ntmps3
    go_wp2_with (first | ((with_reducible refine gate_callee (f := 4) rfl ?_); refine goesL_ (some 23) rfl rfl Try.func4 (by kernel_rfl) rfl #[.slice A0 l0.length c0, .slice A1 l1.length c1] rfl (by (try simp only [List.map_toArray, List.map_cons, List.map_nil]); first | done | rfl | (simp only [List.length_drop, List.length_take]; rfl)) ?_; (with_reducible refine (laws_r8Long.calls _ _ l0 _ _ l1 true _ ?side1 ?side2 ?side3 ?side4 A3.out).mono ?_); (case side1 => repeat (first | exact HR0.out | (with_reducible refine Kd.C_alloc ?_ _) | (with_reducible refine Kd.C_drewN ?_ _) | (with_reducible refine Kd.C_drew ?_))); (case side2 => exact HC0.out); (case side3 => repeat (first | exact HR1.out | (with_reducible refine Kd.C_alloc ?_ _) | (with_reducible refine Kd.C_drewN ?_ _) | (with_reducible refine Kd.C_drew ?_))); (case side4 => exact HC1.out); rintro e w' ⟨rfl, ⟨nd, rfl⟩⟩; refine ⟨_, rfl, ?_⟩))
    go_ret
    exact ⟨by first | rfl | (simp [errW_none, errW_some] <;> rfl) | (simp [*, errW_none, errW_some] <;> rfl), by repeat (first | (with_reducible first | exact HB.out | apply below_alloc | apply pw_below_drewN | apply below_drew1) | exact HB.out)⟩
  · replace c4 := Bool.eq_false_iff.mpr c4
    subst c4
    have H1 : ((spec_R8Blocks.f k l0).bind fun t405 => ((spec_R8Blocks.f k l1).bind fun t408 => ((impl_PutBlock.f k t405 (⟨#[110, 101, 119]⟩ : ByteArray) (⟨#[120]⟩ : ByteArray) (⟨#[116]⟩ : ByteArray)).bind fun bt412 => ((impl_BlockNamed.f k bt412.1 (⟨#[110, 101, 119]⟩ : ByteArray) (⟨#[120]⟩ : ByteArray)).bind fun bt416 => ((impl_DropBlock.f k bt412.1 (⟨#[110, 101, 119]⟩ : ByteArray) (⟨#[120]⟩ : ByteArray)).bind fun bt418 => ((impl_MergeBlocks.f k t405 t408).bind fun bt422 => ((impl_BlocksOfKind.f k bt412.1 (⟨#[110, 101, 119]⟩ : ByteArray)).bind fun bt426 => (if bt412.2 = 0 then (if bt416.2 = 0 then (if bt416.1.toList = ([116] : List UInt8) then (if bt418.2 = 0 then ((spec_SameBlocks.f k bt418.1 t405).bind fun t430 => (if t430 = true then (if bt422.2 = 0 then ((spec_ValidBlocks.f k bt422.1).bind fun t431 => (if t431 = true then (if bt426.2 = 0 then (laws_FnBlocks.j0 k t405 t408 bt422.1 ((bt426.1.length : Int) != 1)) else (laws_FnBlocks.j0 k t405 t408 bt422.1 true)) else (laws_FnBlocks.j0 k t405 t408 bt422.1 true))) else (laws_FnBlocks.j0 k t405 t408 bt422.1 true)) else (laws_FnBlocks.j0 k t405 t408 bt422.1 true))) else (laws_FnBlocks.j0 k t405 t408 bt422.1 true)) else (laws_FnBlocks.j0 k t405 t408 bt422.1 true)) else (laws_FnBlocks.j0 k t405 t408 bt422.1 true)) else (laws_FnBlocks.j0 k t405 t408 bt422.1 true))))))))) = some r := by rw [if_neg (show ¬ (false = true) by decide)] at H; exact H
    clear H
    have H := H1
    clear H1
    replace H := Option.bind_eq_some_iff.mp H
    obtain ⟨t405, A50, H⟩ := H
    replace H : ((spec_R8Blocks.f k l1).bind fun t408 => ((impl_PutBlock.f k t405 (⟨#[110, 101, 119]⟩ : ByteArray) (⟨#[120]⟩ : ByteArray) (⟨#[116]⟩ : ByteArray)).bind fun bt412 => ((impl_BlockNamed.f k bt412.1 (⟨#[110, 101, 119]⟩ : ByteArray) (⟨#[120]⟩ : ByteArray)).bind fun bt416 => ((impl_DropBlock.f k bt412.1 (⟨#[110, 101, 119]⟩ : ByteArray) (⟨#[120]⟩ : ByteArray)).bind fun bt418 => ((impl_MergeBlocks.f k t405 t408).bind fun bt422 => ((impl_BlocksOfKind.f k bt412.1 (⟨#[110, 101, 119]⟩ : ByteArray)).bind fun bt426 => (if bt412.2 = 0 then (if bt416.2 = 0 then (if bt416.1.toList = ([116] : List UInt8) then (if bt418.2 = 0 then ((spec_SameBlocks.f k bt418.1 t405).bind fun t430 => (if t430 = true then (if bt422.2 = 0 then ((spec_ValidBlocks.f k bt422.1).bind fun t431 => (if t431 = true then (if bt426.2 = 0 then (laws_FnBlocks.j0 k t405 t408 bt422.1 ((bt426.1.length : Int) != 1)) else (laws_FnBlocks.j0 k t405 t408 bt422.1 true)) else (laws_FnBlocks.j0 k t405 t408 bt422.1 true))) else (laws_FnBlocks.j0 k t405 t408 bt422.1 true)) else (laws_FnBlocks.j0 k t405 t408 bt422.1 true))) else (laws_FnBlocks.j0 k t405 t408 bt422.1 true)) else (laws_FnBlocks.j0 k t405 t408 bt422.1 true)) else (laws_FnBlocks.j0 k t405 t408 bt422.1 true)) else (laws_FnBlocks.j0 k t405 t408 bt422.1 true)))))))) = some r := H
    have A5 := Aside0.mk A50
    clear A50
    replace H := Option.bind_eq_some_iff.mp H
    obtain ⟨t408, A60, H⟩ := H
    replace H : ((impl_PutBlock.f k t405 (⟨#[110, 101, 119]⟩ : ByteArray) (⟨#[120]⟩ : ByteArray) (⟨#[116]⟩ : ByteArray)).bind fun bt412 => ((impl_BlockNamed.f k bt412.1 (⟨#[110, 101, 119]⟩ : ByteArray) (⟨#[120]⟩ : ByteArray)).bind fun bt416 => ((impl_DropBlock.f k bt412.1 (⟨#[110, 101, 119]⟩ : ByteArray) (⟨#[120]⟩ : ByteArray)).bind fun bt418 => ((impl_MergeBlocks.f k t405 t408).bind fun bt422 => ((impl_BlocksOfKind.f k bt412.1 (⟨#[110, 101, 119]⟩ : ByteArray)).bind fun bt426 => (if bt412.2 = 0 then (if bt416.2 = 0 then (if bt416.1.toList = ([116] : List UInt8) then (if bt418.2 = 0 then ((spec_SameBlocks.f k bt418.1 t405).bind fun t430 => (if t430 = true then (if bt422.2 = 0 then ((spec_ValidBlocks.f k bt422.1).bind fun t431 => (if t431 = true then (if bt426.2 = 0 then (laws_FnBlocks.j0 k t405 t408 bt422.1 ((bt426.1.length : Int) != 1)) else (laws_FnBlocks.j0 k t405 t408 bt422.1 true)) else (laws_FnBlocks.j0 k t405 t408 bt422.1 true))) else (laws_FnBlocks.j0 k t405 t408 bt422.1 true)) else (laws_FnBlocks.j0 k t405 t408 bt422.1 true))) else (laws_FnBlocks.j0 k t405 t408 bt422.1 true)) else (laws_FnBlocks.j0 k t405 t408 bt422.1 true)) else (laws_FnBlocks.j0 k t405 t408 bt422.1 true)) else (laws_FnBlocks.j0 k t405 t408 bt422.1 true))))))) = some r := H
    have A6 := Aside0.mk A60
    clear A60
    replace H := Option.bind_eq_some_iff.mp H
    obtain ⟨⟨t412, t415⟩, A70, H⟩ := H
    replace H : ((impl_BlockNamed.f k t412 (⟨#[110, 101, 119]⟩ : ByteArray) (⟨#[120]⟩ : ByteArray)).bind fun bt416 => ((impl_DropBlock.f k t412 (⟨#[110, 101, 119]⟩ : ByteArray) (⟨#[120]⟩ : ByteArray)).bind fun bt418 => ((impl_MergeBlocks.f k t405 t408).bind fun bt422 => ((impl_BlocksOfKind.f k t412 (⟨#[110, 101, 119]⟩ : ByteArray)).bind fun bt426 => (if t415 = 0 then (if bt416.2 = 0 then (if bt416.1.toList = ([116] : List UInt8) then (if bt418.2 = 0 then ((spec_SameBlocks.f k bt418.1 t405).bind fun t430 => (if t430 = true then (if bt422.2 = 0 then ((spec_ValidBlocks.f k bt422.1).bind fun t431 => (if t431 = true then (if bt426.2 = 0 then (laws_FnBlocks.j0 k t405 t408 bt422.1 ((bt426.1.length : Int) != 1)) else (laws_FnBlocks.j0 k t405 t408 bt422.1 true)) else (laws_FnBlocks.j0 k t405 t408 bt422.1 true))) else (laws_FnBlocks.j0 k t405 t408 bt422.1 true)) else (laws_FnBlocks.j0 k t405 t408 bt422.1 true))) else (laws_FnBlocks.j0 k t405 t408 bt422.1 true)) else (laws_FnBlocks.j0 k t405 t408 bt422.1 true)) else (laws_FnBlocks.j0 k t405 t408 bt422.1 true)) else (laws_FnBlocks.j0 k t405 t408 bt422.1 true)))))) = some r := H
    have A7 := Aside0.mk A70
    clear A70
    replace H := Option.bind_eq_some_iff.mp H
    obtain ⟨⟨t416, t417⟩, A80, H⟩ := H
    replace H : ((impl_DropBlock.f k t412 (⟨#[110, 101, 119]⟩ : ByteArray) (⟨#[120]⟩ : ByteArray)).bind fun bt418 => ((impl_MergeBlocks.f k t405 t408).bind fun bt422 => ((impl_BlocksOfKind.f k t412 (⟨#[110, 101, 119]⟩ : ByteArray)).bind fun bt426 => (if t415 = 0 then (if t417 = 0 then (if t416.toList = ([116] : List UInt8) then (if bt418.2 = 0 then ((spec_SameBlocks.f k bt418.1 t405).bind fun t430 => (if t430 = true then (if bt422.2 = 0 then ((spec_ValidBlocks.f k bt422.1).bind fun t431 => (if t431 = true then (if bt426.2 = 0 then (laws_FnBlocks.j0 k t405 t408 bt422.1 ((bt426.1.length : Int) != 1)) else (laws_FnBlocks.j0 k t405 t408 bt422.1 true)) else (laws_FnBlocks.j0 k t405 t408 bt422.1 true))) else (laws_FnBlocks.j0 k t405 t408 bt422.1 true)) else (laws_FnBlocks.j0 k t405 t408 bt422.1 true))) else (laws_FnBlocks.j0 k t405 t408 bt422.1 true)) else (laws_FnBlocks.j0 k t405 t408 bt422.1 true)) else (laws_FnBlocks.j0 k t405 t408 bt422.1 true)) else (laws_FnBlocks.j0 k t405 t408 bt422.1 true))))) = some r := H
    have A8 := Aside0.mk A80
    clear A80
    replace H := Option.bind_eq_some_iff.mp H
    obtain ⟨⟨t418, t419⟩, A90, H⟩ := H
    replace H : ((impl_MergeBlocks.f k t405 t408).bind fun bt422 => ((impl_BlocksOfKind.f k t412 (⟨#[110, 101, 119]⟩ : ByteArray)).bind fun bt426 => (if t415 = 0 then (if t417 = 0 then (if t416.toList = ([116] : List UInt8) then (if t419 = 0 then ((spec_SameBlocks.f k t418 t405).bind fun t430 => (if t430 = true then (if bt422.2 = 0 then ((spec_ValidBlocks.f k bt422.1).bind fun t431 => (if t431 = true then (if bt426.2 = 0 then (laws_FnBlocks.j0 k t405 t408 bt422.1 ((bt426.1.length : Int) != 1)) else (laws_FnBlocks.j0 k t405 t408 bt422.1 true)) else (laws_FnBlocks.j0 k t405 t408 bt422.1 true))) else (laws_FnBlocks.j0 k t405 t408 bt422.1 true)) else (laws_FnBlocks.j0 k t405 t408 bt422.1 true))) else (laws_FnBlocks.j0 k t405 t408 bt422.1 true)) else (laws_FnBlocks.j0 k t405 t408 bt422.1 true)) else (laws_FnBlocks.j0 k t405 t408 bt422.1 true)) else (laws_FnBlocks.j0 k t405 t408 bt422.1 true)))) = some r := H
    have A9 := Aside0.mk A90
    clear A90
    replace H := Option.bind_eq_some_iff.mp H
    obtain ⟨⟨t422, t423⟩, A100, H⟩ := H
    replace H : ((impl_BlocksOfKind.f k t412 (⟨#[110, 101, 119]⟩ : ByteArray)).bind fun bt426 => (if t415 = 0 then (if t417 = 0 then (if t416.toList = ([116] : List UInt8) then (if t419 = 0 then ((spec_SameBlocks.f k t418 t405).bind fun t430 => (if t430 = true then (if t423 = 0 then ((spec_ValidBlocks.f k t422).bind fun t431 => (if t431 = true then (if bt426.2 = 0 then (laws_FnBlocks.j0 k t405 t408 t422 ((bt426.1.length : Int) != 1)) else (laws_FnBlocks.j0 k t405 t408 t422 true)) else (laws_FnBlocks.j0 k t405 t408 t422 true))) else (laws_FnBlocks.j0 k t405 t408 t422 true)) else (laws_FnBlocks.j0 k t405 t408 t422 true))) else (laws_FnBlocks.j0 k t405 t408 t422 true)) else (laws_FnBlocks.j0 k t405 t408 t422 true)) else (laws_FnBlocks.j0 k t405 t408 t422 true)) else (laws_FnBlocks.j0 k t405 t408 t422 true))) = some r := H
    have A10 := Aside0.mk A100
    clear A100
    replace H := Option.bind_eq_some_iff.mp H
    obtain ⟨⟨t426, t427⟩, A110, H⟩ := H
    replace H : (if t415 = 0 then (if t417 = 0 then (if t416.toList = ([116] : List UInt8) then (if t419 = 0 then ((spec_SameBlocks.f k t418 t405).bind fun t430 => (if t430 = true then (if t423 = 0 then ((spec_ValidBlocks.f k t422).bind fun t431 => (if t431 = true then (if t427 = 0 then (laws_FnBlocks.j0 k t405 t408 t422 ((t426.length : Int) != 1)) else (laws_FnBlocks.j0 k t405 t408 t422 true)) else (laws_FnBlocks.j0 k t405 t408 t422 true))) else (laws_FnBlocks.j0 k t405 t408 t422 true)) else (laws_FnBlocks.j0 k t405 t408 t422 true))) else (laws_FnBlocks.j0 k t405 t408 t422 true)) else (laws_FnBlocks.j0 k t405 t408 t422 true)) else (laws_FnBlocks.j0 k t405 t408 t422 true)) else (laws_FnBlocks.j0 k t405 t408 t422 true)) = some r := H
    have A11 := Aside0.mk A110
    clear A110
    have HC12 := Aside0.mk H
    clear H
    go_enter Try.func3, Try.ntmps3
    go_upto_region 11 with (first | ((with_reducible refine gate_callee (f := 4) rfl ?_); refine goesL_ (some 23) rfl rfl Try.func4 (by kernel_rfl) rfl #[.slice A0 l0.length c0, .slice A1 l1.length c1] rfl (by (try simp only [List.map_toArray, List.map_cons, List.map_nil]); first | done | rfl | (simp only [List.length_drop, List.length_take]; rfl)) ?_; (with_reducible refine (laws_r8Long.calls _ _ l0 _ _ l1 false _ ?side1 ?side2 ?side3 ?side4 A3.out).mono ?_); (case side1 => repeat (first | exact HR0.out | (with_reducible refine Kd.C_alloc ?_ _) | (with_reducible refine Kd.C_drewN ?_ _) | (with_reducible refine Kd.C_drew ?_))); (case side2 => exact HC0.out); (case side3 => repeat (first | exact HR1.out | (with_reducible refine Kd.C_alloc ?_ _) | (with_reducible refine Kd.C_drewN ?_ _) | (with_reducible refine Kd.C_drew ?_))); (case side4 => exact HC1.out); rintro e w' ⟨rfl, ⟨nd, rfl⟩⟩; refine ⟨_, rfl, ?_⟩) | ((with_reducible refine gate_callee (f := 5) rfl ?_); refine goesL_ (some 25) rfl rfl Try.func5 (by kernel_rfl) rfl #[.slice A0 l0.length c0] rfl (by (try simp only [List.map_toArray, List.map_cons, List.map_nil]); first | done | rfl | (simp only [List.length_drop, List.length_take]; rfl)) ?_; (with_reducible refine (spec_R8Blocks.calls k _ _ l0 t405 _ ?side1 ?side2 A5.out).mono ?_); (case side1 => repeat (first | exact HR0.out | (with_reducible refine Kd.C_alloc ?_ _) | (with_reducible refine Kd.C_drewN ?_ _) | (with_reducible refine Kd.C_drew ?_))); (case side2 => exact HC0.out); rintro e w13 ⟨v406, rfl, ho0, hb⟩; refine ⟨_, rfl, ?_⟩; have n0_ := Aside0.mk (Kd.R_lower ho0 (below_size (by repeat (first | (with_reducible first | exact HB.out | apply below_alloc | apply pw_below_drewN | apply below_drew1) | exact HB.out)))); have n1_ := Aside0.mk (below_step (by repeat (first | (with_reducible first | exact HB.out | apply below_alloc | apply pw_below_drewN | apply below_drew1) | exact HB.out)) hb); clear HB; have HO407 := n0_; have HB := n1_; clear n0_ n1_; (try clear hb); (try clear hb2); (try clear hk); (try clear hi); (try clear ho0)) | ((with_reducible refine gate_callee (f := 5) rfl ?_); refine goesL_ (some 27) rfl rfl Try.func5 (by kernel_rfl) rfl #[.slice A1 l1.length c1] rfl (by (try simp only [List.map_toArray, List.map_cons, List.map_nil]); first | done | rfl | (simp only [List.length_drop, List.length_take]; rfl)) ?_; (with_reducible refine (spec_R8Blocks.calls k _ _ l1 t408 _ ?side1 ?side2 A6.out).mono ?_); (case side1 => repeat (first | exact (Kd.C_below HR1.out HB.out) | (with_reducible refine Kd.C_alloc ?_ _) | (with_reducible refine Kd.C_drewN ?_ _) | (with_reducible refine Kd.C_drew ?_))); (case side2 => exact HC1.out); rintro e w14 ⟨v409, rfl, ho0, hb⟩; refine ⟨_, rfl, ?_⟩; have n0_ := Aside0.mk (Kd.R_elder' (by (with_reducible repeat (first | apply Kd.R_alloc | apply Kd.R_drewN | apply Kd.R_drew)); exact HO407.out) (Kd.R_base ho0) hb); have n1_ := Aside0.mk (Kd.R_lower (Kd.R_new' ho0 (Kd.R_lt (by (with_reducible repeat (first | apply Kd.R_alloc | apply Kd.R_drewN | apply Kd.R_drew)); exact HO407.out))) (below_size (by repeat (first | (with_reducible first | exact HB.out | apply below_alloc | apply pw_below_drewN | apply below_drew1) | exact HB.out)))); have n2_ := Aside0.mk (below_step (by repeat (first | (with_reducible first | exact HB.out | apply below_alloc | apply pw_below_drewN | apply below_drew1) | exact HB.out)) hb); clear HO407; clear HB; have HO407 := n0_; have HO410 := n1_; have HB := n2_; clear n0_ n1_ n2_; (try clear hb); (try clear hb2); (try clear hk); (try clear hi); (try clear ho0)) | ((with_reducible refine gate_dst (N := 7) rfl ?_); (try (refine gate_guard (by rfl) ?_; dsimp only)); refine box_event ?hg (N := 7) ?hd (cs := #[.string (⟨#[]⟩ : ByteArray), .string (⟨#[]⟩ : ByteArray), .string (⟨#[]⟩ : ByteArray)]) (t := 27) ?hr ?_; (case hd => rfl); (case hg => rfl); (case hr => first | (go_simp; done) | (go_simp; rfl)); intro gb411 hg w15 hbox hb; have n0_ := Aside0.mk (Kd.R_below (Kd.R_elderB (by (with_reducible repeat (first | apply Kd.R_alloc | apply Kd.R_drewN | apply Kd.R_drew)); exact HO407.out) gb411 (Nat.le_of_eq hg.symm)) hb); have n1_ := Aside0.mk (Kd.R_below (Kd.R_elderB (by (with_reducible repeat (first | apply Kd.R_alloc | apply Kd.R_drewN | apply Kd.R_drew)); exact HO410.out) gb411 (Nat.le_of_eq hg.symm)) hb); have n2_ := Aside0.mk (below_step (by repeat (first | (with_reducible first | exact HB.out | apply below_alloc | apply pw_below_drewN | apply below_drew1) | exact HB.out)) hb); have n3_ := Aside0.mk (hbox); have n4_ := Aside0.mk ((by rw [hg]; exact (below_size (by repeat (first | (with_reducible first | exact HB.out | apply below_alloc | apply pw_below_drewN | apply below_drew1) | exact HB.out))) : w.heap.size ≤ gb411)); have n5_ := Aside0.mk ((by rw [hg]; exact (below_size (by repeat (first | (with_reducible first | exact HB.out | apply below_alloc | apply pw_below_drewN | apply below_drew1) | exact HB.out))) : w.heap.size ≤ gb411)); clear HO407; clear HO410; clear HB; have HO407 := n0_; have HO410 := n1_; have HB := n2_; have BK411 := n3_; have GW411 := n4_; have GE411 := n5_; clear n0_ n1_ n2_ n3_ n4_ n5_; clear hb hbox hg; have hcz16_0 : w15.cell? ⟨gb411, 0, none⟩ = some (.string (⟨#[]⟩ : ByteArray)) := (blk_cell BK411.out 0).trans rfl; have hcz16_1 : w15.cell? ⟨gb411, 1, none⟩ = some (.string (⟨#[]⟩ : ByteArray)) := (blk_cell BK411.out 1).trans rfl; have hcz16_2 : w15.cell? ⟨gb411, 2, none⟩ = some (.string (⟨#[]⟩ : ByteArray)) := (blk_cell BK411.out 2).trans rfl; have hfz16_0 := blk_frozen BK411.out 0; have hfz16_1 := blk_frozen BK411.out 1; have hfz16_2 := blk_frozen BK411.out 2; obtain ⟨Ao17, co17, eo17⟩ := Kd.R_slice HO407.out; subst eo17) | ((with_reducible refine gate_callee (f := 6) rfl ?_); refine goesL_ (some 32) rfl rfl Try.func6 (by kernel_rfl) rfl #[.slice Ao17 t405.length co17, .agg #[.string (⟨#[110, 101, 119]⟩ : ByteArray), .string (⟨#[120]⟩ : ByteArray), .string (⟨#[116]⟩ : ByteArray)]] rfl (by (try simp only [List.map_toArray, List.map_cons, List.map_nil]); first | done | rfl | (simp only [List.length_drop, List.length_take]; rfl)) ?_; (with_reducible refine (impl_PutBlock.calls k _ _ t405 (⟨#[110, 101, 119]⟩ : ByteArray) (⟨#[120]⟩ : ByteArray) (⟨#[116]⟩ : ByteArray) t412 t415 _ ?side1 ?side2 A7.out).mono ?_); (case side1 => refine (Kd.R_reads' (e := 27) (base := w.heap.size) (ok := fun k_ => ((True ∧ some k_ ≠ (v409 : Value).ownBlock) ∧ k_ ≠ gb411)) (n := t405.length) (c := co17) ?_).2.2; exact (by (with_reducible repeat (first | apply Kd.R_alloc | apply Kd.R_drewN | apply Kd.R_drew)); exact (Kd.R_mono (Kd.R_far (p := ⟨gb411, 2, none⟩) (Kd.R_far (p := ⟨gb411, 1, none⟩) (Kd.R_far (p := ⟨gb411, 0, none⟩) (Kd.R_mono HO407.out (fun k_ hk => (⟨hk, hk.2⟩ : _ ∧ k_ ≠ gb411))) (fun _ hk => hk.2) (.string (⟨#[110, 101, 119]⟩ : ByteArray))) (fun _ hk => hk.2) (.string (⟨#[120]⟩ : ByteArray))) (fun _ hk => hk.2) (.string (⟨#[116]⟩ : ByteArray))) (fun _ h_ => h_.1)))); (case side2 => exact (Kd.R_reads' HO407.out).2.1); rintro e w18 ⟨v413, rfl, ho0, hb⟩; refine ⟨_, rfl, ?_⟩; have n0_ := Aside0.mk (Kd.R_elder' (by (with_reducible repeat (first | apply Kd.R_alloc | apply Kd.R_drewN | apply Kd.R_drew)); exact (Kd.R_mono (Kd.R_far (p := ⟨gb411, 2, none⟩) (Kd.R_far (p := ⟨gb411, 1, none⟩) (Kd.R_far (p := ⟨gb411, 0, none⟩) (Kd.R_mono HO407.out (fun k_ hk => (⟨hk, hk.2⟩ : _ ∧ k_ ≠ gb411))) (fun _ hk => hk.2) (.string (⟨#[110, 101, 119]⟩ : ByteArray))) (fun _ hk => hk.2) (.string (⟨#[120]⟩ : ByteArray))) (fun _ hk => hk.2) (.string (⟨#[116]⟩ : ByteArray))) (fun _ h_ => h_.1))) (Kd.R_base ho0) hb); have n1_ := Aside0.mk (Kd.R_elder' (by (with_reducible repeat (first | apply Kd.R_alloc | apply Kd.R_drewN | apply Kd.R_drew)); exact (Kd.R_mono (Kd.R_far (p := ⟨gb411, 2, none⟩) (Kd.R_far (p := ⟨gb411, 1, none⟩) (Kd.R_far (p := ⟨gb411, 0, none⟩) (Kd.R_mono HO410.out (fun k_ hk => (⟨hk, hk.2⟩ : _ ∧ k_ ≠ gb411))) (fun _ hk => hk.2) (.string (⟨#[110, 101, 119]⟩ : ByteArray))) (fun _ hk => hk.2) (.string (⟨#[120]⟩ : ByteArray))) (fun _ hk => hk.2) (.string (⟨#[116]⟩ : ByteArray))) (fun _ h_ => h_.1))) (Kd.R_base ho0) hb); have n2_ := Aside0.mk (Kd.R_lower (Kd.R_newB (Kd.R_new' (Kd.R_new' ho0 (Kd.R_lt (by (with_reducible repeat (first | apply Kd.R_alloc | apply Kd.R_drewN | apply Kd.R_drew)); exact (Kd.R_mono (Kd.R_far (p := ⟨gb411, 2, none⟩) (Kd.R_far (p := ⟨gb411, 1, none⟩) (Kd.R_far (p := ⟨gb411, 0, none⟩) (Kd.R_mono HO407.out (fun k_ hk => (⟨hk, hk.2⟩ : _ ∧ k_ ≠ gb411))) (fun _ hk => hk.2) (.string (⟨#[110, 101, 119]⟩ : ByteArray))) (fun _ hk => hk.2) (.string (⟨#[120]⟩ : ByteArray))) (fun _ hk => hk.2) (.string (⟨#[116]⟩ : ByteArray))) (fun _ h_ => h_.1))))) (Kd.R_lt (by (with_reducible repeat (first | apply Kd.R_alloc | apply Kd.R_drewN | apply Kd.R_drew)); exact (Kd.R_mono (Kd.R_far (p := ⟨gb411, 2, none⟩) (Kd.R_far (p := ⟨gb411, 1, none⟩) (Kd.R_far (p := ⟨gb411, 0, none⟩) (Kd.R_mono HO410.out (fun k_ hk => (⟨hk, hk.2⟩ : _ ∧ k_ ≠ gb411))) (fun _ hk => hk.2) (.string (⟨#[110, 101, 119]⟩ : ByteArray))) (fun _ hk => hk.2) (.string (⟨#[120]⟩ : ByteArray))) (fun _ hk => hk.2) (.string (⟨#[116]⟩ : ByteArray))) (fun _ h_ => h_.1))))) (g := gb411) (o := .cells #[.string (⟨#[110, 101, 119]⟩ : ByteArray), .string (⟨#[120]⟩ : ByteArray), .string (⟨#[116]⟩ : ByteArray)] 27 (0, 0)) (by (with_reducible repeat (first | refine blk_drewN ?_ _ | refine blk_drew ?_ | refine blk_alloc ?_ _)); refine blk_put (cs := #[.string (⟨#[110, 101, 119]⟩ : ByteArray), .string (⟨#[120]⟩ : ByteArray), .string (⟨#[]⟩ : ByteArray)]) ?_ 2 _ rfl; (with_reducible repeat (first | refine blk_drewN ?_ _ | refine blk_drew ?_ | refine blk_alloc ?_ _)); refine blk_put (cs := #[.string (⟨#[110, 101, 119]⟩ : ByteArray), .string (⟨#[]⟩ : ByteArray), .string (⟨#[]⟩ : ByteArray)]) ?_ 1 _ rfl; (with_reducible repeat (first | refine blk_drewN ?_ _ | refine blk_drew ?_ | refine blk_alloc ?_ _)); refine blk_put (cs := #[.string (⟨#[]⟩ : ByteArray), .string (⟨#[]⟩ : ByteArray), .string (⟨#[]⟩ : ByteArray)]) ?_ 0 _ rfl; (with_reducible repeat (first | refine blk_drewN ?_ _ | refine blk_drew ?_ | refine blk_alloc ?_ _)); exact BK411.out)) (below_size (by repeat (first | (with_reducible first | exact HB.out | apply below_alloc | apply pw_below_drewN | apply below_drew1 | refine below_set ?_ GE411.out) | exact HB.out)))); have n3_ := Aside0.mk (blk_below (g := gb411) (o := .cells #[.string (⟨#[110, 101, 119]⟩ : ByteArray), .string (⟨#[120]⟩ : ByteArray), .string (⟨#[116]⟩ : ByteArray)] 27 (0, 0)) (by (with_reducible repeat (first | refine blk_drewN ?_ _ | refine blk_drew ?_ | refine blk_alloc ?_ _)); refine blk_put (cs := #[.string (⟨#[110, 101, 119]⟩ : ByteArray), .string (⟨#[120]⟩ : ByteArray), .string (⟨#[]⟩ : ByteArray)]) ?_ 2 _ rfl; (with_reducible repeat (first | refine blk_drewN ?_ _ | refine blk_drew ?_ | refine blk_alloc ?_ _)); refine blk_put (cs := #[.string (⟨#[110, 101, 119]⟩ : ByteArray), .string (⟨#[]⟩ : ByteArray), .string (⟨#[]⟩ : ByteArray)]) ?_ 1 _ rfl; (with_reducible repeat (first | refine blk_drewN ?_ _ | refine blk_drew ?_ | refine blk_alloc ?_ _)); refine blk_put (cs := #[.string (⟨#[]⟩ : ByteArray), .string (⟨#[]⟩ : ByteArray), .string (⟨#[]⟩ : ByteArray)]) ?_ 0 _ rfl; (with_reducible repeat (first | refine blk_drewN ?_ _ | refine blk_drew ?_ | refine blk_alloc ?_ _)); exact BK411.out) hb); have n4_ := Aside0.mk (below_step (by repeat (first | (with_reducible first | exact HB.out | apply below_alloc | apply pw_below_drewN | apply below_drew1 | refine below_set ?_ GE411.out) | exact HB.out)) hb); clear HO407; clear HO410; clear BK411; clear HB; have HO407 := n0_; have HO410 := n1_; have HO414 := n2_; have BK411 := n3_; have HB := n4_; clear n0_ n1_ n2_ n3_ n4_; (try clear hb); (try clear hb2); (try clear hk); (try clear hi); (try clear ho0); obtain ⟨Ao19, co19, eo19⟩ := Kd.R_slice HO414.out; subst eo19) | ((with_reducible refine gate_callee (f := 7) rfl ?_); refine goesL_ (some 37) rfl rfl Try.func7 (by kernel_rfl) rfl #[.slice Ao19 t412.length co19, .string (⟨#[110, 101, 119]⟩ : ByteArray), .string (⟨#[120]⟩ : ByteArray)] rfl (by (try simp only [List.map_toArray, List.map_cons, List.map_nil]); first | done | rfl | (simp only [List.length_drop, List.length_take]; rfl)) ?_; (with_reducible refine (impl_BlockNamed.calls k _ _ t412 (⟨#[110, 101, 119]⟩ : ByteArray) (⟨#[120]⟩ : ByteArray) t416 t417 _ ?side1 ?side2 A8.out).mono ?_); (case side1 => repeat (first | exact (Kd.R_reads' HO414.out).2.2 | (with_reducible refine Kd.C_alloc ?_ _) | (with_reducible refine Kd.C_drewN ?_ _) | (with_reducible refine Kd.C_drew ?_))); (case side2 => exact (Kd.R_reads' HO414.out).2.1); rintro e w20 ⟨rfl, hb⟩; refine ⟨_, rfl, ?_⟩; have n0_ := Aside0.mk (Kd.R_below (by (with_reducible repeat (first | apply Kd.R_alloc | apply Kd.R_drewN | apply Kd.R_drew)); exact HO407.out) hb); have n1_ := Aside0.mk (Kd.R_below (by (with_reducible repeat (first | apply Kd.R_alloc | apply Kd.R_drewN | apply Kd.R_drew)); exact HO410.out) hb); have n2_ := Aside0.mk (Kd.R_below (by (with_reducible repeat (first | apply Kd.R_alloc | apply Kd.R_drewN | apply Kd.R_drew)); exact HO414.out) hb); have n3_ := Aside0.mk (blk_below (g := gb411) (o := .cells #[.string (⟨#[110, 101, 119]⟩ : ByteArray), .string (⟨#[120]⟩ : ByteArray), .string (⟨#[116]⟩ : ByteArray)] 27 (0, 0)) (by (with_reducible repeat (first | refine blk_drewN ?_ _ | refine blk_drew ?_ | refine blk_alloc ?_ _)); exact BK411.out) hb); have n4_ := Aside0.mk (below_step (by repeat (first | (with_reducible first | exact HB.out | apply below_alloc | apply pw_below_drewN | apply below_drew1 | refine below_set ?_ GE411.out) | exact HB.out)) hb); clear HO407; clear HO410; clear HO414; clear BK411; clear HB; have HO407 := n0_; have HO410 := n1_; have HO414 := n2_; have BK411 := n3_; have HB := n4_; clear n0_ n1_ n2_ n3_ n4_; (try clear hb); (try clear hb2); (try clear hk); (try clear hi)) | ((with_reducible refine gate_callee (f := 8) rfl ?_); refine goesL_ (some 42) rfl rfl Try.func8 (by kernel_rfl) rfl #[.slice Ao19 t412.length co19, .string (⟨#[110, 101, 119]⟩ : ByteArray), .string (⟨#[120]⟩ : ByteArray)] rfl (by (try simp only [List.map_toArray, List.map_cons, List.map_nil]); first | done | rfl | (simp only [List.length_drop, List.length_take]; rfl)) ?_; (with_reducible refine (impl_DropBlock.calls k _ _ t412 (⟨#[110, 101, 119]⟩ : ByteArray) (⟨#[120]⟩ : ByteArray) t418 t419 _ ?side1 ?side2 A9.out).mono ?_); (case side1 => repeat (first | exact (Kd.R_reads' HO414.out).2.2 | (with_reducible refine Kd.C_alloc ?_ _) | (with_reducible refine Kd.C_drewN ?_ _) | (with_reducible refine Kd.C_drew ?_))); (case side2 => exact (Kd.R_reads' HO414.out).2.1); rintro e w21 ⟨v420, rfl, ho0, hb⟩; refine ⟨_, rfl, ?_⟩; have n0_ := Aside0.mk (Kd.R_elder' (by (with_reducible repeat (first | apply Kd.R_alloc | apply Kd.R_drewN | apply Kd.R_drew)); exact HO407.out) (Kd.R_base ho0) hb); have n1_ := Aside0.mk (Kd.R_elder' (by (with_reducible repeat (first | apply Kd.R_alloc | apply Kd.R_drewN | apply Kd.R_drew)); exact HO410.out) (Kd.R_base ho0) hb); have n2_ := Aside0.mk (Kd.R_elder' (by (with_reducible repeat (first | apply Kd.R_alloc | apply Kd.R_drewN | apply Kd.R_drew)); exact HO414.out) (Kd.R_base ho0) hb); have n3_ := Aside0.mk (Kd.R_lower (Kd.R_newB (Kd.R_new' (Kd.R_new' (Kd.R_new' ho0 (Kd.R_lt (by (with_reducible repeat (first | apply Kd.R_alloc | apply Kd.R_drewN | apply Kd.R_drew)); exact HO407.out))) (Kd.R_lt (by (with_reducible repeat (first | apply Kd.R_alloc | apply Kd.R_drewN | apply Kd.R_drew)); exact HO410.out))) (Kd.R_lt (by (with_reducible repeat (first | apply Kd.R_alloc | apply Kd.R_drewN | apply Kd.R_drew)); exact HO414.out))) (g := gb411) (o := .cells #[.string (⟨#[110, 101, 119]⟩ : ByteArray), .string (⟨#[120]⟩ : ByteArray), .string (⟨#[116]⟩ : ByteArray)] 27 (0, 0)) (by (with_reducible repeat (first | refine blk_drewN ?_ _ | refine blk_drew ?_ | refine blk_alloc ?_ _)); exact BK411.out)) (below_size (by repeat (first | (with_reducible first | exact HB.out | apply below_alloc | apply pw_below_drewN | apply below_drew1 | refine below_set ?_ GE411.out) | exact HB.out)))); have n4_ := Aside0.mk (blk_below (g := gb411) (o := .cells #[.string (⟨#[110, 101, 119]⟩ : ByteArray), .string (⟨#[120]⟩ : ByteArray), .string (⟨#[116]⟩ : ByteArray)] 27 (0, 0)) (by (with_reducible repeat (first | refine blk_drewN ?_ _ | refine blk_drew ?_ | refine blk_alloc ?_ _)); exact BK411.out) hb); have n5_ := Aside0.mk (below_step (by repeat (first | (with_reducible first | exact HB.out | apply below_alloc | apply pw_below_drewN | apply below_drew1 | refine below_set ?_ GE411.out) | exact HB.out)) hb); clear HO407; clear HO410; clear HO414; clear BK411; clear HB; have HO407 := n0_; have HO410 := n1_; have HO414 := n2_; have HO421 := n3_; have BK411 := n4_; have HB := n5_; clear n0_ n1_ n2_ n3_ n4_ n5_; (try clear hb); (try clear hb2); (try clear hk); (try clear hi); (try clear ho0); obtain ⟨Ao22, co22, eo22⟩ := Kd.R_slice HO410.out; subst eo22) | ((with_reducible refine gate_callee (f := 9) rfl ?_); refine goesL_ (some 48) rfl rfl Try.func9 (by kernel_rfl) rfl #[.slice Ao17 t405.length co17, .slice Ao22 t408.length co22] rfl (by (try simp only [List.map_toArray, List.map_cons, List.map_nil]); first | done | rfl | (simp only [List.length_drop, List.length_take]; rfl)) ?_; (with_reducible refine (impl_MergeBlocks.calls k _ _ t405 _ _ t408 t422 t423 _ ?side1 ?side2 ?side3 ?side4 A10.out).mono ?_); (case side1 => repeat (first | exact (Kd.R_reads' HO407.out).2.2 | (with_reducible refine Kd.C_alloc ?_ _) | (with_reducible refine Kd.C_drewN ?_ _) | (with_reducible refine Kd.C_drew ?_))); (case side2 => exact (Kd.R_reads' HO407.out).2.1); (case side3 => repeat (first | exact (Kd.R_reads' HO410.out).2.2 | (with_reducible refine Kd.C_alloc ?_ _) | (with_reducible refine Kd.C_drewN ?_ _) | (with_reducible refine Kd.C_drew ?_))); (case side4 => exact (Kd.R_reads' HO410.out).2.1); rintro e w23 ⟨v424, rfl, ho0, hb⟩; refine ⟨_, rfl, ?_⟩; have n0_ := Aside0.mk (Kd.R_elder' (by (with_reducible repeat (first | apply Kd.R_alloc | apply Kd.R_drewN | apply Kd.R_drew)); exact HO407.out) (Kd.R_base ho0) hb); have n1_ := Aside0.mk (Kd.R_elder' (by (with_reducible repeat (first | apply Kd.R_alloc | apply Kd.R_drewN | apply Kd.R_drew)); exact HO410.out) (Kd.R_base ho0) hb); have n2_ := Aside0.mk (Kd.R_elder' (by (with_reducible repeat (first | apply Kd.R_alloc | apply Kd.R_drewN | apply Kd.R_drew)); exact HO414.out) (Kd.R_base ho0) hb); have n3_ := Aside0.mk (Kd.R_elder' (by (with_reducible repeat (first | apply Kd.R_alloc | apply Kd.R_drewN | apply Kd.R_drew)); exact HO421.out) (Kd.R_base ho0) hb); have n4_ := Aside0.mk (Kd.R_lower (Kd.R_newB (Kd.R_new' (Kd.R_new' (Kd.R_new' (Kd.R_new' ho0 (Kd.R_lt (by (with_reducible repeat (first | apply Kd.R_alloc | apply Kd.R_drewN | apply Kd.R_drew)); exact HO407.out))) (Kd.R_lt (by (with_reducible repeat (first | apply Kd.R_alloc | apply Kd.R_drewN | apply Kd.R_drew)); exact HO410.out))) (Kd.R_lt (by (with_reducible repeat (first | apply Kd.R_alloc | apply Kd.R_drewN | apply Kd.R_drew)); exact HO414.out))) (Kd.R_lt (by (with_reducible repeat (first | apply Kd.R_alloc | apply Kd.R_drewN | apply Kd.R_drew)); exact HO421.out))) (g := gb411) (o := .cells #[.string (⟨#[110, 101, 119]⟩ : ByteArray), .string (⟨#[120]⟩ : ByteArray), .string (⟨#[116]⟩ : ByteArray)] 27 (0, 0)) (by (with_reducible repeat (first | refine blk_drewN ?_ _ | refine blk_drew ?_ | refine blk_alloc ?_ _)); exact BK411.out)) (below_size (by repeat (first | (with_reducible first | exact HB.out | apply below_alloc | apply pw_below_drewN | apply below_drew1 | refine below_set ?_ GE411.out) | exact HB.out)))); have n5_ := Aside0.mk (blk_below (g := gb411) (o := .cells #[.string (⟨#[110, 101, 119]⟩ : ByteArray), .string (⟨#[120]⟩ : ByteArray), .string (⟨#[116]⟩ : ByteArray)] 27 (0, 0)) (by (with_reducible repeat (first | refine blk_drewN ?_ _ | refine blk_drew ?_ | refine blk_alloc ?_ _)); exact BK411.out) hb); have n6_ := Aside0.mk (below_step (by repeat (first | (with_reducible first | exact HB.out | apply below_alloc | apply pw_below_drewN | apply below_drew1 | refine below_set ?_ GE411.out) | exact HB.out)) hb); clear HO407; clear HO410; clear HO414; clear HO421; clear BK411; clear HB; have HO407 := n0_; have HO410 := n1_; have HO414 := n2_; have HO421 := n3_; have HO425 := n4_; have BK411 := n5_; have HB := n6_; clear n0_ n1_ n2_ n3_ n4_ n5_ n6_; (try clear hb); (try clear hb2); (try clear hk); (try clear hi); (try clear ho0)) | ((with_reducible refine gate_callee (f := 10) rfl ?_); refine goesL_ (some 53) rfl rfl Try.func10 (by kernel_rfl) rfl #[.slice Ao19 t412.length co19, .string (⟨#[110, 101, 119]⟩ : ByteArray)] rfl (by (try simp only [List.map_toArray, List.map_cons, List.map_nil]); first | done | rfl | (simp only [List.length_drop, List.length_take]; rfl)) ?_; (with_reducible refine (impl_BlocksOfKind.calls k _ _ t412 (⟨#[110, 101, 119]⟩ : ByteArray) t426 t427 _ ?side1 ?side2 A11.out).mono ?_); (case side1 => repeat (first | exact (Kd.R_reads' HO414.out).2.2 | (with_reducible refine Kd.C_alloc ?_ _) | (with_reducible refine Kd.C_drewN ?_ _) | (with_reducible refine Kd.C_drew ?_))); (case side2 => exact (Kd.R_reads' HO414.out).2.1); rintro e w24 ⟨v428, rfl, ho0, hb⟩; refine ⟨_, rfl, ?_⟩; have n0_ := Aside0.mk (Kd.R_below (by (with_reducible repeat (first | apply Kd.R_alloc | apply Kd.R_drewN | apply Kd.R_drew)); exact HO407.out) hb); have n1_ := Aside0.mk (Kd.R_below (by (with_reducible repeat (first | apply Kd.R_alloc | apply Kd.R_drewN | apply Kd.R_drew)); exact HO410.out) hb); have n2_ := Aside0.mk (Kd.R_below (by (with_reducible repeat (first | apply Kd.R_alloc | apply Kd.R_drewN | apply Kd.R_drew)); exact HO414.out) hb); have n3_ := Aside0.mk (Kd.R_below (by (with_reducible repeat (first | apply Kd.R_alloc | apply Kd.R_drewN | apply Kd.R_drew)); exact HO421.out) hb); have n4_ := Aside0.mk (Kd.R_below (by (with_reducible repeat (first | apply Kd.R_alloc | apply Kd.R_drewN | apply Kd.R_drew)); exact HO425.out) hb); have n5_ := Aside0.mk (Kd.R_lower ho0 (below_size (by repeat (first | (with_reducible first | exact HB.out | apply below_alloc | apply pw_below_drewN | apply below_drew1 | refine below_set ?_ GE411.out) | exact HB.out)))); have n6_ := Aside0.mk (blk_below (g := gb411) (o := .cells #[.string (⟨#[110, 101, 119]⟩ : ByteArray), .string (⟨#[120]⟩ : ByteArray), .string (⟨#[116]⟩ : ByteArray)] 27 (0, 0)) (by (with_reducible repeat (first | refine blk_drewN ?_ _ | refine blk_drew ?_ | refine blk_alloc ?_ _)); exact BK411.out) hb); have n7_ := Aside0.mk (below_step (by repeat (first | (with_reducible first | exact HB.out | apply below_alloc | apply pw_below_drewN | apply below_drew1 | refine below_set ?_ GE411.out) | exact HB.out)) hb); clear HO407; clear HO410; clear HO414; clear HO421; clear HO425; clear BK411; clear HB; have HO407 := n0_; have HO410 := n1_; have HO414 := n2_; have HO421 := n3_; have HO425 := n4_; have HO429 := n5_; have BK411 := n6_; have HB := n7_; clear n0_ n1_ n2_ n3_ n4_ n5_ n6_ n7_; (try clear hb); (try clear hb2); (try clear hk); (try clear hi); (try clear ho0)))
    (try simp only [Act.put, List.setIfInBounds_toArray, List.set_cons_zero, List.set_cons_succ])
    go_cut [93] (fun v93 wc => ∃ (kq : Nat) (x93_11 : Bool), v93 = .bool x93_11 ∧ Aside0 (laws_FnBlocks.j0 kq t405 t408 t422 x93_11 = some r) ∧ Aside0 (kq ≤ k) ∧ Aside0 (Kd.R k27 27 wc w.heap.size (fun k_ => some k_ ≠ ((.slice Ao22 t408.length co22) : Value).ownBlock ∧ some k_ ≠ (v424 : Value).ownBlock ∧ k_ ≠ gb411) (.slice Ao17 t405.length co17) t405) ∧ Aside0 (Kd.R k27 27 wc w.heap.size (fun k_ => some k_ ≠ ((.slice Ao17 t405.length co17) : Value).ownBlock ∧ some k_ ≠ (v424 : Value).ownBlock ∧ k_ ≠ gb411) (.slice Ao22 t408.length co22) t408) ∧ Aside0 (Kd.R k27 27 wc w.heap.size (fun k_ => some k_ ≠ ((.slice Ao17 t405.length co17) : Value).ownBlock ∧ some k_ ≠ ((.slice Ao22 t408.length co22) : Value).ownBlock ∧ k_ ≠ gb411) v424 t422) ∧ Aside0 (wc.heap[gb411]? = some (.cells #[.string (⟨#[110, 101, 119]⟩ : ByteArray), .string (⟨#[120]⟩ : ByteArray), .string (⟨#[116]⟩ : ByteArray)] 27 (0, 0))) ∧ Aside0 (Below w.heap.size w wc))
    case first =>
      have H := HC12.out
      clear HC12
      by_cases c25 : t415 = 0
      · rw [if_pos c25] at H
        have c25b0 : (t415 == 0) = true := beq_iff_eq.mpr c25
        have c25b1 : (t415 != 0) = false := bne_eq_false_iff_eq.mpr c25
        clear c25
        (first | rw [c25b0] | (simp only [i64_w, i32_w]; rw [c25b0]) | skip)
        by_cases c26 : t417 = 0
        · rw [if_pos c26] at H
          have c26b0 : (t417 == 0) = true := beq_iff_eq.mpr c26
          have c26b1 : (t417 != 0) = false := bne_eq_false_iff_eq.mpr c26
          clear c26
          by_cases c27 : t416.toList = ([116] : List UInt8)
          · rw [if_pos c27] at H
            have c27b0 : (t416.toList == ([116] : List UInt8)) = true := beq_iff_eq.mpr c27
            have c27b1 : (t416.toList != ([116] : List UInt8)) = false := bne_eq_false_iff_eq.mpr c27
            clear c27
            by_cases c28 : t419 = 0
            · rw [if_pos c28] at H
              have c28b0 : (t419 == 0) = true := beq_iff_eq.mpr c28
              have c28b1 : (t419 != 0) = false := bne_eq_false_iff_eq.mpr c28
              clear c28
              replace H := Option.bind_eq_some_iff.mp H
              obtain ⟨t430, A290, H⟩ := H
              replace H : (if t430 = true then (if t423 = 0 then ((spec_ValidBlocks.f k t422).bind fun t431 => (if t431 = true then (if t427 = 0 then (laws_FnBlocks.j0 k t405 t408 t422 ((t426.length : Int) != 1)) else (laws_FnBlocks.j0 k t405 t408 t422 true)) else (laws_FnBlocks.j0 k t405 t408 t422 true))) else (laws_FnBlocks.j0 k t405 t408 t422 true)) else (laws_FnBlocks.j0 k t405 t408 t422 true)) = some r := H
              have A29 := Aside0.mk A290
              clear A290
              by_cases c30 : t430 = true
              · subst c30
                have H1 : (if t423 = 0 then ((spec_ValidBlocks.f k t422).bind fun t431 => (if t431 = true then (if t427 = 0 then (laws_FnBlocks.j0 k t405 t408 t422 ((t426.length : Int) != 1)) else (laws_FnBlocks.j0 k t405 t408 t422 true)) else (laws_FnBlocks.j0 k t405 t408 t422 true))) else (laws_FnBlocks.j0 k t405 t408 t422 true)) = some r := by rw [if_pos rfl] at H; exact H
                clear H
                have H := H1
                clear H1
                by_cases c31 : t423 = 0
                · rw [if_pos c31] at H
                  have c31b0 : (t423 == 0) = true := beq_iff_eq.mpr c31
                  have c31b1 : (t423 != 0) = false := bne_eq_false_iff_eq.mpr c31
                  clear c31
                  replace H := Option.bind_eq_some_iff.mp H
                  obtain ⟨t431, A320, H⟩ := H
                  replace H : (if t431 = true then (if t427 = 0 then (laws_FnBlocks.j0 k t405 t408 t422 ((t426.length : Int) != 1)) else (laws_FnBlocks.j0 k t405 t408 t422 true)) else (laws_FnBlocks.j0 k t405 t408 t422 true)) = some r := H
                  have A32 := Aside0.mk A320
                  clear A320
                  by_cases c33 : t431 = true
                  · subst c33
                    have H1 : (if t427 = 0 then (laws_FnBlocks.j0 k t405 t408 t422 ((t426.length : Int) != 1)) else (laws_FnBlocks.j0 k t405 t408 t422 true)) = some r := by rw [if_pos rfl] at H; exact H
                    clear H
                    have H := H1
                    clear H1
                    by_cases c34 : t427 = 0
                    · rw [if_pos c34] at H
                      have c34b0 : (t427 == 0) = true := beq_iff_eq.mpr c34
                      have c34b1 : (t427 != 0) = false := bne_eq_false_iff_eq.mpr c34
                      clear c34
                      have H' := Aside0.mk H
                      clear H
                      obtain ⟨Ao35, co35, eo35⟩ := Kd.R_slice HO421.out
                      subst eo35
                      go_wp2_with (first | (go_at_call 11; (with_reducible refine (spec_SameBlocks.calls k _ _ t418 _ _ t405 true _ ?side1 ?side2 ?side3 ?side4 A29.out).mono ?_); (case side1 => repeat (first | exact (Kd.R_reads' HO421.out).2.2 | (with_reducible refine Kd.C_alloc ?_ _) | (with_reducible refine Kd.C_drewN ?_ _) | (with_reducible refine Kd.C_drew ?_))); (case side2 => exact (Kd.R_reads' HO421.out).2.1); (case side3 => repeat (first | exact (Kd.R_reads' HO407.out).2.2 | (with_reducible refine Kd.C_alloc ?_ _) | (with_reducible refine Kd.C_drewN ?_ _) | (with_reducible refine Kd.C_drew ?_))); (case side4 => exact (Kd.R_reads' HO407.out).2.1); rintro e w' ⟨rfl, ⟨nd, rfl⟩⟩; obtain ⟨Ao36, co36, eo36⟩ := Kd.R_slice HO425.out; subst eo36) | (go_at_call 12; (with_reducible refine (spec_ValidBlocks.calls k _ _ t422 true _ ?side1 ?side2 A32.out).mono ?_); (case side1 => repeat (first | exact (Kd.R_reads' HO425.out).2.2 | (with_reducible refine Kd.C_alloc ?_ _) | (with_reducible refine Kd.C_drewN ?_ _) | (with_reducible refine Kd.C_drew ?_))); (case side2 => exact (Kd.R_reads' HO425.out).2.1); rintro e w' ⟨rfl, ⟨nd, rfl⟩⟩; obtain ⟨Ao37, co37, eo37⟩ := Kd.R_slice HO429.out; subst eo37))
                      go_meet
                      case rel => exact ⟨_, (((t426.length : Int) != 1)), (by first | rfl | (simp; done) | (simp [*]; done)), H', ⟨by first | omega | exact Nat.le_refl _⟩, ⟨by (with_reducible repeat (first | apply Kd.R_alloc | apply Kd.R_drewN | apply Kd.R_drew)); exact Kd.R_mono HO407.out (fun _ hk => ⟨hk.1.1.1.1.2, ⟨hk.2, hk.1.1.1.2⟩⟩)⟩, ⟨by (with_reducible repeat (first | apply Kd.R_alloc | apply Kd.R_drewN | apply Kd.R_drew)); exact Kd.R_mono HO410.out (fun _ hk => ⟨hk.1.1.1.1.2, ⟨hk.2, hk.1.1.1.2⟩⟩)⟩, ⟨by (with_reducible repeat (first | apply Kd.R_alloc | apply Kd.R_drewN | apply Kd.R_drew)); exact Kd.R_mono HO425.out (fun _ hk => ⟨hk.1.1.1.1.2, ⟨hk.1.1.1.2, hk.2⟩⟩)⟩, ⟨by (with_reducible repeat (first | refine blk_drewN ?_ _ | refine blk_drew ?_ | refine blk_alloc ?_ _)); exact BK411.out⟩, ⟨by repeat (first | (with_reducible first | exact HB.out | apply below_alloc | apply pw_below_drewN | apply below_drew1 | refine below_set ?_ GE411.out) | exact HB.out)⟩⟩
                    · rw [if_neg c34] at H
                      have c34b0 : (t427 == 0) = false := beq_eq_false_iff_ne.mpr c34
                      have c34b1 : (t427 != 0) = true := bne_iff_ne.mpr c34
                      have H' := Aside0.mk H
                      clear H
                      obtain ⟨Ao38, co38, eo38⟩ := Kd.R_slice HO421.out
                      subst eo38
                      go_wp2_with (first | (go_at_call 11; (with_reducible refine (spec_SameBlocks.calls k _ _ t418 _ _ t405 true _ ?side1 ?side2 ?side3 ?side4 A29.out).mono ?_); (case side1 => repeat (first | exact (Kd.R_reads' HO421.out).2.2 | (with_reducible refine Kd.C_alloc ?_ _) | (with_reducible refine Kd.C_drewN ?_ _) | (with_reducible refine Kd.C_drew ?_))); (case side2 => exact (Kd.R_reads' HO421.out).2.1); (case side3 => repeat (first | exact (Kd.R_reads' HO407.out).2.2 | (with_reducible refine Kd.C_alloc ?_ _) | (with_reducible refine Kd.C_drewN ?_ _) | (with_reducible refine Kd.C_drew ?_))); (case side4 => exact (Kd.R_reads' HO407.out).2.1); rintro e w' ⟨rfl, ⟨nd, rfl⟩⟩; obtain ⟨Ao39, co39, eo39⟩ := Kd.R_slice HO425.out; subst eo39) | (go_at_call 12; (with_reducible refine (spec_ValidBlocks.calls k _ _ t422 true _ ?side1 ?side2 A32.out).mono ?_); (case side1 => repeat (first | exact (Kd.R_reads' HO425.out).2.2 | (with_reducible refine Kd.C_alloc ?_ _) | (with_reducible refine Kd.C_drewN ?_ _) | (with_reducible refine Kd.C_drew ?_))); (case side2 => exact (Kd.R_reads' HO425.out).2.1); rintro e w' ⟨rfl, ⟨nd, rfl⟩⟩))
                      go_meet
                      case rel => exact ⟨_, (true), (by first | rfl | (simp; done) | (simp [*]; done)), H', ⟨by first | omega | exact Nat.le_refl _⟩, ⟨by (with_reducible repeat (first | apply Kd.R_alloc | apply Kd.R_drewN | apply Kd.R_drew)); exact Kd.R_mono HO407.out (fun _ hk => ⟨hk.1.1.1.1.2, ⟨hk.2, hk.1.1.1.2⟩⟩)⟩, ⟨by (with_reducible repeat (first | apply Kd.R_alloc | apply Kd.R_drewN | apply Kd.R_drew)); exact Kd.R_mono HO410.out (fun _ hk => ⟨hk.1.1.1.1.2, ⟨hk.2, hk.1.1.1.2⟩⟩)⟩, ⟨by (with_reducible repeat (first | apply Kd.R_alloc | apply Kd.R_drewN | apply Kd.R_drew)); exact Kd.R_mono HO425.out (fun _ hk => ⟨hk.1.1.1.1.2, ⟨hk.1.1.1.2, hk.2⟩⟩)⟩, ⟨by (with_reducible repeat (first | refine blk_drewN ?_ _ | refine blk_drew ?_ | refine blk_alloc ?_ _)); exact BK411.out⟩, ⟨by repeat (first | (with_reducible first | exact HB.out | apply below_alloc | apply pw_below_drewN | apply below_drew1 | refine below_set ?_ GE411.out) | exact HB.out)⟩⟩
                  · replace c33 := Bool.eq_false_iff.mpr c33
                    subst c33
                    have H1 : (laws_FnBlocks.j0 k t405 t408 t422 true) = some r := by rw [if_neg (show ¬ (false = true) by decide)] at H; exact H
                    clear H
                    have H := H1
                    clear H1
                    have H' := Aside0.mk H
                    clear H
                    obtain ⟨Ao40, co40, eo40⟩ := Kd.R_slice HO421.out
                    subst eo40
                    go_wp2_with (first | (go_at_call 11; (with_reducible refine (spec_SameBlocks.calls k _ _ t418 _ _ t405 true _ ?side1 ?side2 ?side3 ?side4 A29.out).mono ?_); (case side1 => repeat (first | exact (Kd.R_reads' HO421.out).2.2 | (with_reducible refine Kd.C_alloc ?_ _) | (with_reducible refine Kd.C_drewN ?_ _) | (with_reducible refine Kd.C_drew ?_))); (case side2 => exact (Kd.R_reads' HO421.out).2.1); (case side3 => repeat (first | exact (Kd.R_reads' HO407.out).2.2 | (with_reducible refine Kd.C_alloc ?_ _) | (with_reducible refine Kd.C_drewN ?_ _) | (with_reducible refine Kd.C_drew ?_))); (case side4 => exact (Kd.R_reads' HO407.out).2.1); rintro e w' ⟨rfl, ⟨nd, rfl⟩⟩; obtain ⟨Ao41, co41, eo41⟩ := Kd.R_slice HO425.out; subst eo41) | (go_at_call 12; (with_reducible refine (spec_ValidBlocks.calls k _ _ t422 false _ ?side1 ?side2 A32.out).mono ?_); (case side1 => repeat (first | exact (Kd.R_reads' HO425.out).2.2 | (with_reducible refine Kd.C_alloc ?_ _) | (with_reducible refine Kd.C_drewN ?_ _) | (with_reducible refine Kd.C_drew ?_))); (case side2 => exact (Kd.R_reads' HO425.out).2.1); rintro e w' ⟨rfl, ⟨nd, rfl⟩⟩))
                    go_meet
                    case rel => exact ⟨_, (true), (by first | rfl | (simp; done) | (simp [*]; done)), H', ⟨by first | omega | exact Nat.le_refl _⟩, ⟨by (with_reducible repeat (first | apply Kd.R_alloc | apply Kd.R_drewN | apply Kd.R_drew)); exact Kd.R_mono HO407.out (fun _ hk => ⟨hk.1.1.1.1.2, ⟨hk.2, hk.1.1.1.2⟩⟩)⟩, ⟨by (with_reducible repeat (first | apply Kd.R_alloc | apply Kd.R_drewN | apply Kd.R_drew)); exact Kd.R_mono HO410.out (fun _ hk => ⟨hk.1.1.1.1.2, ⟨hk.2, hk.1.1.1.2⟩⟩)⟩, ⟨by (with_reducible repeat (first | apply Kd.R_alloc | apply Kd.R_drewN | apply Kd.R_drew)); exact Kd.R_mono HO425.out (fun _ hk => ⟨hk.1.1.1.1.2, ⟨hk.1.1.1.2, hk.2⟩⟩)⟩, ⟨by (with_reducible repeat (first | refine blk_drewN ?_ _ | refine blk_drew ?_ | refine blk_alloc ?_ _)); exact BK411.out⟩, ⟨by repeat (first | (with_reducible first | exact HB.out | apply below_alloc | apply pw_below_drewN | apply below_drew1 | refine below_set ?_ GE411.out) | exact HB.out)⟩⟩
                · rw [if_neg c31] at H
                  have c31b0 : (t423 == 0) = false := beq_eq_false_iff_ne.mpr c31
                  have c31b1 : (t423 != 0) = true := bne_iff_ne.mpr c31
                  have H' := Aside0.mk H
                  clear H
                  obtain ⟨Ao42, co42, eo42⟩ := Kd.R_slice HO421.out
                  subst eo42
                  go_wp2_with (first | (go_at_call 11; (with_reducible refine (spec_SameBlocks.calls k _ _ t418 _ _ t405 true _ ?side1 ?side2 ?side3 ?side4 A29.out).mono ?_); (case side1 => repeat (first | exact (Kd.R_reads' HO421.out).2.2 | (with_reducible refine Kd.C_alloc ?_ _) | (with_reducible refine Kd.C_drewN ?_ _) | (with_reducible refine Kd.C_drew ?_))); (case side2 => exact (Kd.R_reads' HO421.out).2.1); (case side3 => repeat (first | exact (Kd.R_reads' HO407.out).2.2 | (with_reducible refine Kd.C_alloc ?_ _) | (with_reducible refine Kd.C_drewN ?_ _) | (with_reducible refine Kd.C_drew ?_))); (case side4 => exact (Kd.R_reads' HO407.out).2.1); rintro e w' ⟨rfl, ⟨nd, rfl⟩⟩))
                  go_meet
                  case rel => exact ⟨_, (true), (by first | rfl | (simp; done) | (simp [*]; done)), H', ⟨by first | omega | exact Nat.le_refl _⟩, ⟨by (with_reducible repeat (first | apply Kd.R_alloc | apply Kd.R_drewN | apply Kd.R_drew)); exact Kd.R_mono HO407.out (fun _ hk => ⟨hk.1.1.1.1.2, ⟨hk.2, hk.1.1.1.2⟩⟩)⟩, ⟨by (with_reducible repeat (first | apply Kd.R_alloc | apply Kd.R_drewN | apply Kd.R_drew)); exact Kd.R_mono HO410.out (fun _ hk => ⟨hk.1.1.1.1.2, ⟨hk.2, hk.1.1.1.2⟩⟩)⟩, ⟨by (with_reducible repeat (first | apply Kd.R_alloc | apply Kd.R_drewN | apply Kd.R_drew)); exact Kd.R_mono HO425.out (fun _ hk => ⟨hk.1.1.1.1.2, ⟨hk.1.1.1.2, hk.2⟩⟩)⟩, ⟨by (with_reducible repeat (first | refine blk_drewN ?_ _ | refine blk_drew ?_ | refine blk_alloc ?_ _)); exact BK411.out⟩, ⟨by repeat (first | (with_reducible first | exact HB.out | apply below_alloc | apply pw_below_drewN | apply below_drew1 | refine below_set ?_ GE411.out) | exact HB.out)⟩⟩
              · replace c30 := Bool.eq_false_iff.mpr c30
                subst c30
                have H1 : (laws_FnBlocks.j0 k t405 t408 t422 true) = some r := by rw [if_neg (show ¬ (false = true) by decide)] at H; exact H
                clear H
                have H := H1
                clear H1
                have H' := Aside0.mk H
                clear H
                obtain ⟨Ao43, co43, eo43⟩ := Kd.R_slice HO421.out
                subst eo43
                go_wp2_with (first | (go_at_call 11; (with_reducible refine (spec_SameBlocks.calls k _ _ t418 _ _ t405 false _ ?side1 ?side2 ?side3 ?side4 A29.out).mono ?_); (case side1 => repeat (first | exact (Kd.R_reads' HO421.out).2.2 | (with_reducible refine Kd.C_alloc ?_ _) | (with_reducible refine Kd.C_drewN ?_ _) | (with_reducible refine Kd.C_drew ?_))); (case side2 => exact (Kd.R_reads' HO421.out).2.1); (case side3 => repeat (first | exact (Kd.R_reads' HO407.out).2.2 | (with_reducible refine Kd.C_alloc ?_ _) | (with_reducible refine Kd.C_drewN ?_ _) | (with_reducible refine Kd.C_drew ?_))); (case side4 => exact (Kd.R_reads' HO407.out).2.1); rintro e w' ⟨rfl, ⟨nd, rfl⟩⟩))
                go_meet
                case rel => exact ⟨_, (true), (by first | rfl | (simp; done) | (simp [*]; done)), H', ⟨by first | omega | exact Nat.le_refl _⟩, ⟨by (with_reducible repeat (first | apply Kd.R_alloc | apply Kd.R_drewN | apply Kd.R_drew)); exact Kd.R_mono HO407.out (fun _ hk => ⟨hk.1.1.1.1.2, ⟨hk.2, hk.1.1.1.2⟩⟩)⟩, ⟨by (with_reducible repeat (first | apply Kd.R_alloc | apply Kd.R_drewN | apply Kd.R_drew)); exact Kd.R_mono HO410.out (fun _ hk => ⟨hk.1.1.1.1.2, ⟨hk.2, hk.1.1.1.2⟩⟩)⟩, ⟨by (with_reducible repeat (first | apply Kd.R_alloc | apply Kd.R_drewN | apply Kd.R_drew)); exact Kd.R_mono HO425.out (fun _ hk => ⟨hk.1.1.1.1.2, ⟨hk.1.1.1.2, hk.2⟩⟩)⟩, ⟨by (with_reducible repeat (first | refine blk_drewN ?_ _ | refine blk_drew ?_ | refine blk_alloc ?_ _)); exact BK411.out⟩, ⟨by repeat (first | (with_reducible first | exact HB.out | apply below_alloc | apply pw_below_drewN | apply below_drew1 | refine below_set ?_ GE411.out) | exact HB.out)⟩⟩
            · rw [if_neg c28] at H
              have c28b0 : (t419 == 0) = false := beq_eq_false_iff_ne.mpr c28
              have c28b1 : (t419 != 0) = true := bne_iff_ne.mpr c28
              have H' := Aside0.mk H
              clear H
              go_wp2
              go_meet
              case rel => exact ⟨_, (true), (by first | rfl | (simp; done) | (simp [*]; done)), H', ⟨by first | omega | exact Nat.le_refl _⟩, ⟨by (with_reducible repeat (first | apply Kd.R_alloc | apply Kd.R_drewN | apply Kd.R_drew)); exact Kd.R_mono HO407.out (fun _ hk => ⟨hk.1.1.1.1.2, ⟨hk.2, hk.1.1.1.2⟩⟩)⟩, ⟨by (with_reducible repeat (first | apply Kd.R_alloc | apply Kd.R_drewN | apply Kd.R_drew)); exact Kd.R_mono HO410.out (fun _ hk => ⟨hk.1.1.1.1.2, ⟨hk.2, hk.1.1.1.2⟩⟩)⟩, ⟨by (with_reducible repeat (first | apply Kd.R_alloc | apply Kd.R_drewN | apply Kd.R_drew)); exact Kd.R_mono HO425.out (fun _ hk => ⟨hk.1.1.1.1.2, ⟨hk.1.1.1.2, hk.2⟩⟩)⟩, ⟨by (with_reducible repeat (first | refine blk_drewN ?_ _ | refine blk_drew ?_ | refine blk_alloc ?_ _)); exact BK411.out⟩, ⟨by repeat (first | (with_reducible first | exact HB.out | apply below_alloc | apply pw_below_drewN | apply below_drew1 | refine below_set ?_ GE411.out) | exact HB.out)⟩⟩
          · rw [if_neg c27] at H
            have c27b0 : (t416.toList == ([116] : List UInt8)) = false := beq_eq_false_iff_ne.mpr c27
            have c27b1 : (t416.toList != ([116] : List UInt8)) = true := bne_iff_ne.mpr c27
            have H' := Aside0.mk H
            clear H
            go_wp2
            go_meet
            case rel => exact ⟨_, (true), (by first | rfl | (simp; done) | (simp [*]; done)), H', ⟨by first | omega | exact Nat.le_refl _⟩, ⟨by (with_reducible repeat (first | apply Kd.R_alloc | apply Kd.R_drewN | apply Kd.R_drew)); exact Kd.R_mono HO407.out (fun _ hk => ⟨hk.1.1.1.1.2, ⟨hk.2, hk.1.1.1.2⟩⟩)⟩, ⟨by (with_reducible repeat (first | apply Kd.R_alloc | apply Kd.R_drewN | apply Kd.R_drew)); exact Kd.R_mono HO410.out (fun _ hk => ⟨hk.1.1.1.1.2, ⟨hk.2, hk.1.1.1.2⟩⟩)⟩, ⟨by (with_reducible repeat (first | apply Kd.R_alloc | apply Kd.R_drewN | apply Kd.R_drew)); exact Kd.R_mono HO425.out (fun _ hk => ⟨hk.1.1.1.1.2, ⟨hk.1.1.1.2, hk.2⟩⟩)⟩, ⟨by (with_reducible repeat (first | refine blk_drewN ?_ _ | refine blk_drew ?_ | refine blk_alloc ?_ _)); exact BK411.out⟩, ⟨by repeat (first | (with_reducible first | exact HB.out | apply below_alloc | apply pw_below_drewN | apply below_drew1 | refine below_set ?_ GE411.out) | exact HB.out)⟩⟩
        · rw [if_neg c26] at H
          have c26b0 : (t417 == 0) = false := beq_eq_false_iff_ne.mpr c26
          have c26b1 : (t417 != 0) = true := bne_iff_ne.mpr c26
          have H' := Aside0.mk H
          clear H
          go_wp2
          go_meet
          case rel => exact ⟨_, (true), (by first | rfl | (simp; done) | (simp [*]; done)), H', ⟨by first | omega | exact Nat.le_refl _⟩, ⟨by (with_reducible repeat (first | apply Kd.R_alloc | apply Kd.R_drewN | apply Kd.R_drew)); exact Kd.R_mono HO407.out (fun _ hk => ⟨hk.1.1.1.1.2, ⟨hk.2, hk.1.1.1.2⟩⟩)⟩, ⟨by (with_reducible repeat (first | apply Kd.R_alloc | apply Kd.R_drewN | apply Kd.R_drew)); exact Kd.R_mono HO410.out (fun _ hk => ⟨hk.1.1.1.1.2, ⟨hk.2, hk.1.1.1.2⟩⟩)⟩, ⟨by (with_reducible repeat (first | apply Kd.R_alloc | apply Kd.R_drewN | apply Kd.R_drew)); exact Kd.R_mono HO425.out (fun _ hk => ⟨hk.1.1.1.1.2, ⟨hk.1.1.1.2, hk.2⟩⟩)⟩, ⟨by (with_reducible repeat (first | refine blk_drewN ?_ _ | refine blk_drew ?_ | refine blk_alloc ?_ _)); exact BK411.out⟩, ⟨by repeat (first | (with_reducible first | exact HB.out | apply below_alloc | apply pw_below_drewN | apply below_drew1 | refine below_set ?_ GE411.out) | exact HB.out)⟩⟩
      · rw [if_neg c25] at H
        have c25b0 : (t415 == 0) = false := beq_eq_false_iff_ne.mpr c25
        have c25b1 : (t415 != 0) = true := bne_iff_ne.mpr c25
        (first | rw [c25b0] | (simp only [i64_w, i32_w]; rw [c25b0]) | skip)
        have H' := Aside0.mk H
        clear H
        go_wp2
        go_meet
        case rel => exact ⟨_, (true), (by first | rfl | (simp; done) | (simp [*]; done)), H', ⟨by first | omega | exact Nat.le_refl _⟩, ⟨by (with_reducible repeat (first | apply Kd.R_alloc | apply Kd.R_drewN | apply Kd.R_drew)); exact Kd.R_mono HO407.out (fun _ hk => ⟨hk.1.1.1.1.2, ⟨hk.2, hk.1.1.1.2⟩⟩)⟩, ⟨by (with_reducible repeat (first | apply Kd.R_alloc | apply Kd.R_drewN | apply Kd.R_drew)); exact Kd.R_mono HO410.out (fun _ hk => ⟨hk.1.1.1.1.2, ⟨hk.2, hk.1.1.1.2⟩⟩)⟩, ⟨by (with_reducible repeat (first | apply Kd.R_alloc | apply Kd.R_drewN | apply Kd.R_drew)); exact Kd.R_mono HO425.out (fun _ hk => ⟨hk.1.1.1.1.2, ⟨hk.1.1.1.2, hk.2⟩⟩)⟩, ⟨by (with_reducible repeat (first | refine blk_drewN ?_ _ | refine blk_drew ?_ | refine blk_alloc ?_ _)); exact BK411.out⟩, ⟨by repeat (first | (with_reducible first | exact HB.out | apply below_alloc | apply pw_below_drewN | apply below_drew1 | refine below_set ?_ GE411.out) | exact HB.out)⟩⟩
    case rest =>
      clear HC12
      try clear c1
      try clear c2
      try clear p2
      try clear c3
      try clear c4
      try clear c5
      try clear c6
      try clear c7
      try clear c8
      try clear c9
      try clear c10
      try clear c25
      try clear c25b0
      try clear c25b1
      try clear c26
      try clear c26b0
      try clear c26b1
      try clear c27
      try clear c27b0
      try clear c27b1
      try clear c28
      try clear c28b0
      try clear c28b1
      try clear c30
      try clear c31
      try clear c31b0
      try clear c31b1
      try clear c33
      try clear c34
      try clear c34b0
      try clear c34b1
      try clear hcz16_0
      try clear hcz16_1
      try clear hcz16_2
      try clear hfz16_0
      try clear hfz16_1
      try clear hfz16_2
      obtain ⟨kq, x93_11, rfl, HA, HJ11, HO_5, HO_6, HO_14, BK411, HB⟩ := hcut
      cases kq with
      | zero => exact absurd HA.out (by simp [laws_FnBlocks.j0])
      | succ kj11 =>
        have H := HA.out
        clear HA
        simp only [laws_FnBlocks.j0] at H
        by_cases c44 : x93_11 = true
        · subst c44
          have H1 : (some false) = some r := by rw [if_pos rfl] at H; exact H
          clear H
          have H := H1
          clear H1
          obtain rfl := Option.some.inj H
          go_wp2
          go_ret
          exact ⟨by first | rfl | (simp [errW_none, errW_some] <;> rfl) | (simp [*, errW_none, errW_some] <;> rfl), by repeat (first | (with_reducible first | exact HB.out | apply below_alloc | apply pw_below_drewN | apply below_drew1 | refine below_set ?_ GE411.out) | exact HB.out)⟩
        · replace c44 := Bool.eq_false_iff.mpr c44
          subst c44
          have H1 : (laws_FnBlocks.l0 kj11 t405 t408 t422 0) = some r := by rw [if_neg (show ¬ (false = true) by decide)] at H; exact H
          clear H
          have H := H1
          clear H1
          have H' := Aside0.mk H
          clear H
          go_wp2
          go_loopg [18] kj11 (fun kq v18 w' => ∃ (x18_2 : Int), v18 = .int .i64 x18_2 ∧ Aside0 (laws_FnBlocks.l0 kq t405 t408 t422 x18_2 = some r) ∧ Aside0 (kq ≤ kj11) ∧ Aside0 (Kd.R k27 27 w' w.heap.size (fun k_ => some k_ ≠ ((.slice Ao22 t408.length co22) : Value).ownBlock ∧ some k_ ≠ (v424 : Value).ownBlock ∧ k_ ≠ gb411) (.slice Ao17 t405.length co17) t405) ∧ Aside0 (Kd.R k27 27 w' w.heap.size (fun k_ => some k_ ≠ ((.slice Ao17 t405.length co17) : Value).ownBlock ∧ some k_ ≠ (v424 : Value).ownBlock ∧ k_ ≠ gb411) (.slice Ao22 t408.length co22) t408) ∧ Aside0 (Kd.R k27 27 w' w.heap.size (fun k_ => some k_ ≠ ((.slice Ao17 t405.length co17) : Value).ownBlock ∧ some k_ ≠ ((.slice Ao22 t408.length co22) : Value).ownBlock ∧ k_ ≠ gb411) v424 t422) ∧ Aside0 (w'.heap[gb411]? = some (.cells #[.string (⟨#[110, 101, 119]⟩ : ByteArray), .string (⟨#[120]⟩ : ByteArray), .string (⟨#[116]⟩ : ByteArray)] 27 (0, 0))) ∧ Aside0 (Below w.heap.size w w'))
          case atStart => exact ⟨(0), (by first | rfl | (simp; done) | (simp [*]; done)), H', ⟨Nat.le_refl _⟩, ⟨by (with_reducible repeat (first | apply Kd.R_alloc | apply Kd.R_drewN | apply Kd.R_drew)); exact HO_5.out⟩, ⟨by (with_reducible repeat (first | apply Kd.R_alloc | apply Kd.R_drewN | apply Kd.R_drew)); exact HO_6.out⟩, ⟨by (with_reducible repeat (first | apply Kd.R_alloc | apply Kd.R_drewN | apply Kd.R_drew)); exact HO_14.out⟩, ⟨by (with_reducible repeat (first | refine blk_drewN ?_ _ | refine blk_drew ?_ | refine blk_alloc ?_ _)); exact BK411.out⟩, ⟨by repeat (first | (with_reducible first | exact HB.out | apply below_alloc | apply pw_below_drewN | apply below_drew1 | refine below_set ?_ GE411.out) | exact HB.out)⟩⟩
          case round =>
            clear H'
            try clear c1
            try clear c2
            try clear p2
            try clear c3
            try clear c4
            try clear c5
            try clear c6
            try clear c7
            try clear c8
            try clear c9
            try clear c10
            try clear c25
            try clear c25b0
            try clear c25b1
            try clear c26
            try clear c26b0
            try clear c26b1
            try clear c27
            try clear c27b0
            try clear c27b1
            try clear c28
            try clear c28b0
            try clear c28b1
            try clear c30
            try clear c31
            try clear c31b0
            try clear c31b1
            try clear c33
            try clear c34
            try clear c34b0
            try clear c34b1
            try clear c44
            try clear hcz16_0
            try clear hcz16_1
            try clear hcz16_2
            try clear hfz16_0
            try clear hfz16_1
            try clear hfz16_2
            try clear p2
            obtain ⟨x18_2, rfl, HA, HK2, HO_5, HO_6, HO_14, BK411, HB⟩ := hrel
            cases gk with
            | zero => exact absurd HA.out (by simp [laws_FnBlocks.l0])
            | succ k2 =>
              have H := HA.out
              clear HA
              simp only [laws_FnBlocks.l0] at H
              by_cases c45 : x18_2 < (t408.length : Int)
              · rw [if_pos c45] at H
                have c45b0 : decide (x18_2 < (t408.length : Int)) = true := decide_eq_true c45
                clear c45
                by_cases c46 : 0 ≤ x18_2
                · rw [if_pos c46] at H
                  have c46b0 : decide (0 ≤ x18_2) = true := decide_eq_true c46
                  clear c46
                  replace H := Option.bind_eq_some_iff.mp H
                  obtain ⟨⟨t434, t435⟩, A470, H⟩ := H
                  replace H : (if t435 = 0 then (if t434.toList = ((rd_T27 t408 x18_2).f2).toList then (laws_FnBlocks.l0 k2 t405 t408 t422 (wrap64 (x18_2 + 1))) else (some false)) else (some false)) = some r := H
                  have A47 := Aside0.mk A470
                  clear A470
                  by_cases c48 : t435 = 0
                  · rw [if_pos c48] at H
                    have c48b0 : (t435 == 0) = true := beq_iff_eq.mpr c48
                    have c48b1 : (t435 != 0) = false := bne_eq_false_iff_eq.mpr c48
                    clear c48
                    by_cases c49 : t434.toList = ((rd_T27 t408 x18_2).f2).toList
                    · rw [if_pos c49] at H
                      have c49b0 : (t434.toList == ((rd_T27 t408 x18_2).f2).toList) = true := beq_iff_eq.mpr c49
                      have c49b1 : (t434.toList != ((rd_T27 t408 x18_2).f2).toList) = false := bne_eq_false_iff_eq.mpr c49
                      clear c49
                      have H' := Aside0.mk H
                      clear H
                      try go_wp2
                      have n0_ := Aside0.mk (Kd.R_drew HO_5.out)
                      have n1_ := Aside0.mk (Kd.R_drew HO_6.out)
                      have n2_ := Aside0.mk (Kd.R_drew HO_14.out)
                      have n3_ := Aside0.mk (blk_drew BK411.out)
                      have n4_ := Aside0.mk (below_drew1 HB.out)
                      clear HO_5
                      clear HO_6
                      clear HO_14
                      clear BK411
                      clear HB
                      have HO_5 := n0_
                      have HO_6 := n1_
                      have HO_14 := n2_
                      have BK411 := n3_
                      have HB := n4_
                      clear n0_ n1_ n2_ n3_ n4_
                      have p432 : 0 ≤ (x18_2 : Int) := of_decide_eq_true (by first | (with_reducible assumption) | assumption)
                      have q432 : x18_2 < (t408.length : Int) := of_decide_eq_true (by first | (with_reducible assumption) | assumption)
                      obtain ⟨ad432, e432, hx432_0, hx432_1, hx432_2⟩ := at_T27 (Kd.R_reads' HO_6.out).2.2 x18_2 p432 q432
                      cases e432
                      replace p432 := eq_true p432
                      replace q432 := eq_true q432
                      have p433 : 0 ≤ (x18_2 : Int) := of_decide_eq_true (by first | (with_reducible assumption) | assumption)
                      have q433 : x18_2 < (t408.length : Int) := of_decide_eq_true (by first | (with_reducible assumption) | assumption)
                      obtain ⟨ad433, e433, hx433_0, hx433_1, hx433_2⟩ := at_T27 (Kd.R_reads' HO_6.out).2.2 x18_2 p433 q433
                      obtain rfl : ad432 = ad433 := (by injection e433)
                      replace p433 := eq_true p433
                      replace q433 := eq_true q433
                      obtain ⟨Ao51, co51, eo51⟩ := Kd.R_slice HO_14.out
                      (first | subst eo51 | (injection eo51 with f1_ f2_ f3_; have f4_ := f1_.symm; have f5_ := f3_.symm; clear f1_ f2_ f3_; subst f4_; subst f5_))
                      refine start_ (n := 17) (S := fun w' => w'.cell? (ad432.add ((x18_2).toNat * 3)) = some (.string ((rd_T27 t408 x18_2).f0)) ∧ w'.cell? ⟨(ad432.add ((x18_2).toNat * 3)).block, (ad432.add ((x18_2).toNat * 3)).off + 1, none⟩ = some (.string ((rd_T27 t408 x18_2).f1)) ∧ w'.cell? ⟨(ad432.add ((x18_2).toNat * 3)).block, (ad432.add ((x18_2).toNat * 3)).off + 2, none⟩ = some (.string ((rd_T27 t408 x18_2).f2)) ∧ w'.cell? (ad432.add ((x18_2).toNat * 3)) = some (.string ((rd_T27 t408 x18_2).f0)) ∧ w'.cell? ⟨(ad432.add ((x18_2).toNat * 3)).block, (ad432.add ((x18_2).toNat * 3)).off + 1, none⟩ = some (.string ((rd_T27 t408 x18_2).f1)) ∧ w'.cell? ⟨(ad432.add ((x18_2).toNat * 3)).block, (ad432.add ((x18_2).toNat * 3)).off + 2, none⟩ = some (.string ((rd_T27 t408 x18_2).f2))) (ds := []) #[false, false, false, false, false, false, false, false, false, false, false, false, false, false, false, false, false] (by kernel_rfl) rfl rfl ⟨hx432_0, hx432_1, hx432_2, hx433_0, hx433_1, hx433_2⟩ (fun hHeld => ?_); refine with_tabW laws_FnBlocks.tab16 laws_FnBlocks.bits16 (fun HT_ HW_ => ?_)
                      generalize wr.drew = w50 at HO_5 HO_6 HO_14 BK411 HB hx432_0 hx432_1 hx432_2 hx433_0 hx433_1 hx433_2 hHeld ⊢
                      refine pure_ (i := 0) (N := some 101) (v := ?_) (a' := ?_) #[true, false, false, false, false, false, false, false, false, false, false, false, false, false, false, false, false] rfl rfl (any_of HT_.out (by kernel_rfl)) (fun _ _ _ h => h) (Or.inl ⟨by rfl, ?_⟩) ?_ ?_
                      rotate_left
                      · intro w'
                        go_simp
                        with_reducible rfl
                      rotate_left
                      · simp only [Act.put, List.setIfInBounds_toArray, List.set_cons_zero, List.set_cons_succ, i64_w, i32_w]
                        rfl
                      refine pure_ (i := 1) (N := some 102) (v := ?_) (a' := ?_) #[true, true, false, false, false, false, false, false, false, false, false, false, false, false, false, false, false] rfl rfl (any_of HT_.out (by kernel_rfl)) (fun _ _ _ h => h) (Or.inl ⟨by rfl, ?_⟩) ?_ ?_
                      rotate_left
                      · intro w'
                        go_simp
                        with_reducible rfl
                      rotate_left
                      · simp only [Act.put, List.setIfInBounds_toArray, List.set_cons_zero, List.set_cons_succ, i64_w, i32_w]
                        rfl
                      refine pure_ (i := 2) (N := some 103) (v := ?_) (a' := ?_) #[true, true, true, false, false, false, false, false, false, false, false, false, false, false, false, false, false] rfl rfl (any_of HT_.out (by kernel_rfl)) (fun _ _ _ h => h) (Or.inl ⟨by rfl, ?_⟩) ?_ ?_
                      rotate_left
                      · intro w'
                        go_simp
                        with_reducible rfl
                      rotate_left
                      · simp only [Act.put, List.setIfInBounds_toArray, List.set_cons_zero, List.set_cons_succ, i64_w, i32_w]
                        rfl
                      refine pure_ (i := 3) (N := some 104) (v := ?_) (a' := ?_) #[true, true, true, true, false, false, false, false, false, false, false, false, false, false, false, false, false] rfl rfl (any_of HT_.out (by kernel_rfl)) (fun _ _ _ h => h) (Or.inl ⟨by rfl, ?_⟩) ?_ ?_
                      rotate_left
                      · intro w'
                        go_simp
                        with_reducible rfl
                      rotate_left
                      · simp only [Act.put, List.setIfInBounds_toArray, List.set_cons_zero, List.set_cons_succ, i64_w, i32_w]
                        rfl
                      refine pure_ (i := 4) (N := some 105) (v := ?_) (a' := ?_) #[true, true, true, true, true, false, false, false, false, false, false, false, false, false, false, false, false] rfl rfl (any_of HT_.out (by kernel_rfl)) (fun _ _ _ h => h) (Or.inl ⟨by rfl, ?_⟩) ?_ ?_
                      rotate_left
                      · intro w'
                        go_simp
                        with_reducible rfl
                      rotate_left
                      · simp only [Act.put, List.setIfInBounds_toArray, List.set_cons_zero, List.set_cons_succ, i64_w, i32_w]
                        rfl
                      refine pure_ (i := 6) (N := some 107) (v := ?_) (a' := ?_) #[true, true, true, true, true, false, true, false, false, false, false, false, false, false, false, false, false] rfl rfl (any_of HT_.out (by kernel_rfl)) (fun _ _ _ h => h) (Or.inl ⟨by rfl, ?_⟩) ?_ ?_
                      rotate_left
                      · intro w'
                        go_simp
                        with_reducible rfl
                      rotate_left
                      · simp only [Act.put, List.setIfInBounds_toArray, List.set_cons_zero, List.set_cons_succ, i64_w, i32_w]
                        rfl
                      refine pure_ (i := 7) (N := some 108) (v := ?_) (a' := ?_) #[true, true, true, true, true, false, true, true, false, false, false, false, false, false, false, false, false] rfl rfl (any_of HT_.out (by kernel_rfl)) (fun _ _ _ h => h) (Or.inl ⟨by rfl, ?_⟩) ?_ ?_
                      rotate_left
                      · intro w'
                        go_simp
                        with_reducible rfl
                      rotate_left
                      · simp only [Act.put, List.setIfInBounds_toArray, List.set_cons_zero, List.set_cons_succ, i64_w, i32_w]
                        rfl
                      refine pure_ (i := 8) (N := some 109) (v := ?_) (a' := ?_) #[true, true, true, true, true, false, true, true, true, false, false, false, false, false, false, false, false] rfl rfl (any_of HT_.out (by kernel_rfl)) (fun _ _ _ h => h) (Or.inl ⟨by rfl, ?_⟩) ?_ ?_
                      rotate_left
                      · intro w'
                        go_simp
                        with_reducible rfl
                      rotate_left
                      · simp only [Act.put, List.setIfInBounds_toArray, List.set_cons_zero, List.set_cons_succ, i64_w, i32_w]
                        rfl
                      refine pure_ (i := 9) (N := some 110) (v := ?_) (a' := ?_) #[true, true, true, true, true, false, true, true, true, true, false, false, false, false, false, false, false] rfl rfl (any_of HT_.out (by kernel_rfl)) (fun _ _ _ h => h) (Or.inl ⟨by rfl, ?_⟩) ?_ ?_
                      rotate_left
                      · intro w'
                        go_simp
                        with_reducible rfl
                      rotate_left
                      · simp only [Act.put, List.setIfInBounds_toArray, List.set_cons_zero, List.set_cons_succ, i64_w, i32_w]
                        rfl
                      refine take_ (i := 5) (N := some 106) (v := ?_) (a' := ?_) #[true, true, true, true, true, true, true, true, true, true, false, false, false, false, false, false, false] rfl rfl (take_ofW HT_.out HW_.out (by kernel_rfl)) (fun _ _ _ h => h) (Or.inl ⟨by rfl, ?_⟩) hHeld ?_ ?_
                      rotate_left
                      · rintro w' ⟨s0, s1, s2, s3, s4, s5⟩
                        go_simp
                        with_reducible rfl
                      rotate_left
                      · simp only [Act.put, List.setIfInBounds_toArray, List.set_cons_zero, List.set_cons_succ, i64_w, i32_w]
                        rfl
                      refine take_ (i := 10) (N := some 111) (v := ?_) (a' := ?_) #[true, true, true, true, true, true, true, true, true, true, true, false, false, false, false, false, false] rfl rfl (take_ofW HT_.out HW_.out (by kernel_rfl)) (fun _ _ _ h => h) (Or.inl ⟨by rfl, ?_⟩) hHeld ?_ ?_
                      rotate_left
                      · rintro w' ⟨s0, s1, s2, s3, s4, s5⟩
                        go_simp
                        with_reducible rfl
                      rotate_left
                      · simp only [Act.put, List.setIfInBounds_toArray, List.set_cons_zero, List.set_cons_succ, i64_w, i32_w]
                        rfl
                      refine one_ (i := 11) (N := some 112) #[true, true, true, true, true, true, true, true, true, true, true, true, false, false, false, false, false] rfl rfl (one_of HT_.out (by kernel_rfl)) (by decide) (fun K hK => ?_)
                      refine goes_ Try.func7 (by kernel_rfl) rfl #[.slice Ao51 t422.length co51, .string ((rd_T27 t408 x18_2).f0), .string ((rd_T27 t408 x18_2).f1)] (by rfl) rfl rfl (by (try simp only [List.map_toArray, List.map_cons, List.map_nil]); first | done | rfl | (simp only [List.length_drop, List.length_take]; rfl)) ?_
                      with_reducible refine (impl_BlockNamed.calls k2 _ _ t422 ((rd_T27 t408 x18_2).f0) ((rd_T27 t408 x18_2).f1) t434 t435 _ ?side1 ?side2 A47.out).mono ?_
                      (case side1 => repeat (first | exact (Kd.R_reads' HO_14.out).2.2 | (with_reducible refine Kd.C_alloc ?_ _) | (with_reducible refine Kd.C_drewN ?_ _) | (with_reducible refine Kd.C_drew ?_)))
                      (case side2 => exact (Kd.R_reads' HO_14.out).2.1)
                      rintro e w52 ⟨rfl, hb⟩
                      have HS0_ := (hb.cell (World.block_lt_of_cell? _ _ (hHeld.1))).trans (hHeld.1)
                      have HS1_ := (hb.cell (World.block_lt_of_cell? _ _ (hHeld.2.1))).trans (hHeld.2.1)
                      have HS2_ := (hb.cell (World.block_lt_of_cell? _ _ (hHeld.2.2.1))).trans (hHeld.2.2.1)
                      have HS3_ := (hb.cell (World.block_lt_of_cell? _ _ (hHeld.2.2.2.1))).trans (hHeld.2.2.2.1)
                      have HS4_ := (hb.cell (World.block_lt_of_cell? _ _ (hHeld.2.2.2.2.1))).trans (hHeld.2.2.2.2.1)
                      have HS5_ := (hb.cell (World.block_lt_of_cell? _ _ (hHeld.2.2.2.2.2))).trans (hHeld.2.2.2.2.2)
                      refine ⟨_, rfl, ?_⟩
                      have n0_ := Aside0.mk (Kd.R_below (by (with_reducible repeat (first | apply Kd.R_alloc | apply Kd.R_drewN | apply Kd.R_drew)); exact HO_5.out) hb)
                      have n1_ := Aside0.mk (Kd.R_below (by (with_reducible repeat (first | apply Kd.R_alloc | apply Kd.R_drewN | apply Kd.R_drew)); exact HO_6.out) hb)
                      have n2_ := Aside0.mk (Kd.R_below (by (with_reducible repeat (first | apply Kd.R_alloc | apply Kd.R_drewN | apply Kd.R_drew)); exact HO_14.out) hb)
                      have n3_ := Aside0.mk (blk_below (g := gb411) (o := .cells #[.string (⟨#[110, 101, 119]⟩ : ByteArray), .string (⟨#[120]⟩ : ByteArray), .string (⟨#[116]⟩ : ByteArray)] 27 (0, 0)) (by (with_reducible repeat (first | refine blk_drewN ?_ _ | refine blk_drew ?_ | refine blk_alloc ?_ _)); exact BK411.out) hb)
                      have n4_ := Aside0.mk (below_step (by repeat (first | (with_reducible first | exact HB.out | apply below_alloc | apply pw_below_drewN | apply below_drew1 | refine below_set ?_ GE411.out) | exact HB.out)) hb)
                      clear HO_5
                      clear HO_6
                      clear HO_14
                      clear BK411
                      clear HB
                      have HO_5 := n0_
                      have HO_6 := n1_
                      have HO_14 := n2_
                      have BK411 := n3_
                      have HB := n4_
                      clear n0_ n1_ n2_ n3_ n4_
                      (try clear hb)
                      (try clear hb2)
                      (try clear hk)
                      (try clear hi)
                      refine hK.out _ _ ⟨HS0_, HS1_, HS2_, HS3_, HS4_, HS5_⟩ (fun hHeld => ?_)
                      clear hK K
                      refine norm_ (a' := ?_) ?_ ?_
                      rotate_left
                      · show Act.put _ (some 112) _ = _
                        simp only [Act.put, List.setIfInBounds_toArray, List.set_cons_zero, List.set_cons_succ, i64_w, i32_w]
                        rfl
                      refine pure_ (i := 12) (N := some 100) (v := ?_) (a' := ?_) #[true, true, true, true, true, true, true, true, true, true, true, true, true, false, false, false, false] rfl rfl (any_of HT_.out (by kernel_rfl)) (fun _ _ _ h => h) (Or.inl ⟨by rfl, ?_⟩) ?_ ?_
                      rotate_left
                      · intro w'
                        go_simp
                        with_reducible rfl
                      rotate_left
                      · simp only [Act.put, List.setIfInBounds_toArray, List.set_cons_zero, List.set_cons_succ, i64_w, i32_w]
                        rfl
                      refine pure_ (i := 13) (N := some 113) (v := ?_) (a' := ?_) #[true, true, true, true, true, true, true, true, true, true, true, true, true, true, false, false, false] rfl rfl (any_of HT_.out (by kernel_rfl)) (fun _ _ _ h => h) (Or.inl ⟨by rfl, ?_⟩) ?_ ?_
                      rotate_left
                      · intro w'
                        go_simp
                        with_reducible rfl
                      rotate_left
                      · simp only [Act.put, List.setIfInBounds_toArray, List.set_cons_zero, List.set_cons_succ, i64_w, i32_w]
                        rfl
                      refine pure_ (i := 14) (N := some 114) (v := ?_) (a' := ?_) #[true, true, true, true, true, true, true, true, true, true, true, true, true, true, true, false, false] rfl rfl (any_of HT_.out (by kernel_rfl)) (fun _ _ _ h => h) (Or.inl ⟨by rfl, ?_⟩) ?_ ?_
                      rotate_left
                      · intro w'
                        go_simp
                        with_reducible rfl
                      rotate_left
                      · simp only [Act.put, List.setIfInBounds_toArray, List.set_cons_zero, List.set_cons_succ, i64_w, i32_w]
                        rfl
                      refine pure_ (i := 15) (N := some 19) (v := ?_) (a' := ?_) #[true, true, true, true, true, true, true, true, true, true, true, true, true, true, true, true, false] rfl rfl (any_of HT_.out (by kernel_rfl)) (fun _ _ _ h => h) (Or.inl ⟨by rfl, ?_⟩) ?_ ?_
                      rotate_left
                      · intro w'
                        go_simp
                        with_reducible rfl
                      rotate_left
                      · simp only [Act.put, List.setIfInBounds_toArray, List.set_cons_zero, List.set_cons_succ, i64_w, i32_w]
                        rfl
                      refine pure_ (i := 16) (N := some 20) (v := ?_) (a' := ?_) #[true, true, true, true, true, true, true, true, true, true, true, true, true, true, true, true, true] rfl rfl (any_of HT_.out (by kernel_rfl)) (fun _ _ _ h => h) (Or.inl ⟨by rfl, ?_⟩) ?_ ?_
                      rotate_left
                      · intro w'
                        go_simp
                        with_reducible rfl
                      rotate_left
                      · simp only [Act.put, List.setIfInBounds_toArray, List.set_cons_zero, List.set_cons_succ, i64_w, i32_w]
                        rfl
                      refine done_ (done_of HT_.out (by kernel_rfl)) ?_
                      have p436 : 0 ≤ (x18_2 : Int) := of_decide_eq_true (by first | (with_reducible assumption) | assumption)
                      have q436 : x18_2 < (t408.length : Int) := of_decide_eq_true (by first | (with_reducible assumption) | assumption)
                      obtain ⟨ad436, e436, hx436_0, hx436_1, hx436_2⟩ := at_T27 (Kd.R_reads' HO_6.out).2.2 x18_2 p436 q436
                      obtain rfl : ad432 = ad436 := (by injection e436)
                      replace p436 := eq_true p436
                      replace q436 := eq_true q436
                      try go_wp2
                      go_roundg k2
                      case measure => have := HJ11.out; have := HK2.out; omega
                      case rel => exact ⟨(wrap64 (x18_2 + 1)), (by first | rfl | (simp; done) | (simp [*]; done)), H', ⟨by have := HJ11.out; have := HK2.out; omega⟩, ⟨by (with_reducible repeat (first | apply Kd.R_alloc | apply Kd.R_drewN | apply Kd.R_drew)); exact HO_5.out⟩, ⟨by (with_reducible repeat (first | apply Kd.R_alloc | apply Kd.R_drewN | apply Kd.R_drew)); exact HO_6.out⟩, ⟨by (with_reducible repeat (first | apply Kd.R_alloc | apply Kd.R_drewN | apply Kd.R_drew)); exact HO_14.out⟩, ⟨by (with_reducible repeat (first | refine blk_drewN ?_ _ | refine blk_drew ?_ | refine blk_alloc ?_ _)); exact BK411.out⟩, ⟨by repeat (first | (with_reducible first | exact HB.out | apply below_alloc | apply pw_below_drewN | apply below_drew1 | refine below_set ?_ GE411.out) | exact HB.out)⟩⟩
                    · rw [if_neg c49] at H
                      have c49b0 : (t434.toList == ((rd_T27 t408 x18_2).f2).toList) = false := beq_eq_false_iff_ne.mpr c49
                      have c49b1 : (t434.toList != ((rd_T27 t408 x18_2).f2).toList) = true := bne_iff_ne.mpr c49
                      obtain rfl := Option.some.inj H
                      try go_wp2
                      have n0_ := Aside0.mk (Kd.R_drew HO_5.out)
                      have n1_ := Aside0.mk (Kd.R_drew HO_6.out)
                      have n2_ := Aside0.mk (Kd.R_drew HO_14.out)
                      have n3_ := Aside0.mk (blk_drew BK411.out)
                      have n4_ := Aside0.mk (below_drew1 HB.out)
                      clear HO_5
                      clear HO_6
                      clear HO_14
                      clear BK411
                      clear HB
                      have HO_5 := n0_
                      have HO_6 := n1_
                      have HO_14 := n2_
                      have BK411 := n3_
                      have HB := n4_
                      clear n0_ n1_ n2_ n3_ n4_
                      have p432 : 0 ≤ (x18_2 : Int) := of_decide_eq_true (by first | (with_reducible assumption) | assumption)
                      have q432 : x18_2 < (t408.length : Int) := of_decide_eq_true (by first | (with_reducible assumption) | assumption)
                      obtain ⟨ad432, e432, hx432_0, hx432_1, hx432_2⟩ := at_T27 (Kd.R_reads' HO_6.out).2.2 x18_2 p432 q432
                      cases e432
                      replace p432 := eq_true p432
                      replace q432 := eq_true q432
                      have p433 : 0 ≤ (x18_2 : Int) := of_decide_eq_true (by first | (with_reducible assumption) | assumption)
                      have q433 : x18_2 < (t408.length : Int) := of_decide_eq_true (by first | (with_reducible assumption) | assumption)
                      obtain ⟨ad433, e433, hx433_0, hx433_1, hx433_2⟩ := at_T27 (Kd.R_reads' HO_6.out).2.2 x18_2 p433 q433
                      obtain rfl : ad432 = ad433 := (by injection e433)
                      replace p433 := eq_true p433
                      replace q433 := eq_true q433
                      obtain ⟨Ao54, co54, eo54⟩ := Kd.R_slice HO_14.out
                      (first | subst eo54 | (injection eo54 with f1_ f2_ f3_; have f4_ := f1_.symm; have f5_ := f3_.symm; clear f1_ f2_ f3_; subst f4_; subst f5_))
                      refine start_ (n := 17) (S := fun w' => w'.cell? (ad432.add ((x18_2).toNat * 3)) = some (.string ((rd_T27 t408 x18_2).f0)) ∧ w'.cell? ⟨(ad432.add ((x18_2).toNat * 3)).block, (ad432.add ((x18_2).toNat * 3)).off + 1, none⟩ = some (.string ((rd_T27 t408 x18_2).f1)) ∧ w'.cell? ⟨(ad432.add ((x18_2).toNat * 3)).block, (ad432.add ((x18_2).toNat * 3)).off + 2, none⟩ = some (.string ((rd_T27 t408 x18_2).f2)) ∧ w'.cell? (ad432.add ((x18_2).toNat * 3)) = some (.string ((rd_T27 t408 x18_2).f0)) ∧ w'.cell? ⟨(ad432.add ((x18_2).toNat * 3)).block, (ad432.add ((x18_2).toNat * 3)).off + 1, none⟩ = some (.string ((rd_T27 t408 x18_2).f1)) ∧ w'.cell? ⟨(ad432.add ((x18_2).toNat * 3)).block, (ad432.add ((x18_2).toNat * 3)).off + 2, none⟩ = some (.string ((rd_T27 t408 x18_2).f2))) (ds := []) #[false, false, false, false, false, false, false, false, false, false, false, false, false, false, false, false, false] (by kernel_rfl) rfl rfl ⟨hx432_0, hx432_1, hx432_2, hx433_0, hx433_1, hx433_2⟩ (fun hHeld => ?_); refine with_tabW laws_FnBlocks.tab16 laws_FnBlocks.bits16 (fun HT_ HW_ => ?_)
                      generalize wr.drew = w53 at HO_5 HO_6 HO_14 BK411 HB hx432_0 hx432_1 hx432_2 hx433_0 hx433_1 hx433_2 hHeld ⊢
                      refine pure_ (i := 0) (N := some 101) (v := ?_) (a' := ?_) #[true, false, false, false, false, false, false, false, false, false, false, false, false, false, false, false, false] rfl rfl (any_of HT_.out (by kernel_rfl)) (fun _ _ _ h => h) (Or.inl ⟨by rfl, ?_⟩) ?_ ?_
                      rotate_left
                      · intro w'
                        go_simp
                        with_reducible rfl
                      rotate_left
                      · simp only [Act.put, List.setIfInBounds_toArray, List.set_cons_zero, List.set_cons_succ, i64_w, i32_w]
                        rfl
                      refine pure_ (i := 1) (N := some 102) (v := ?_) (a' := ?_) #[true, true, false, false, false, false, false, false, false, false, false, false, false, false, false, false, false] rfl rfl (any_of HT_.out (by kernel_rfl)) (fun _ _ _ h => h) (Or.inl ⟨by rfl, ?_⟩) ?_ ?_
                      rotate_left
                      · intro w'
                        go_simp
                        with_reducible rfl
                      rotate_left
                      · simp only [Act.put, List.setIfInBounds_toArray, List.set_cons_zero, List.set_cons_succ, i64_w, i32_w]
                        rfl
                      refine pure_ (i := 2) (N := some 103) (v := ?_) (a' := ?_) #[true, true, true, false, false, false, false, false, false, false, false, false, false, false, false, false, false] rfl rfl (any_of HT_.out (by kernel_rfl)) (fun _ _ _ h => h) (Or.inl ⟨by rfl, ?_⟩) ?_ ?_
                      rotate_left
                      · intro w'
                        go_simp
                        with_reducible rfl
                      rotate_left
                      · simp only [Act.put, List.setIfInBounds_toArray, List.set_cons_zero, List.set_cons_succ, i64_w, i32_w]
                        rfl
                      refine pure_ (i := 3) (N := some 104) (v := ?_) (a' := ?_) #[true, true, true, true, false, false, false, false, false, false, false, false, false, false, false, false, false] rfl rfl (any_of HT_.out (by kernel_rfl)) (fun _ _ _ h => h) (Or.inl ⟨by rfl, ?_⟩) ?_ ?_
                      rotate_left
                      · intro w'
                        go_simp
                        with_reducible rfl
                      rotate_left
                      · simp only [Act.put, List.setIfInBounds_toArray, List.set_cons_zero, List.set_cons_succ, i64_w, i32_w]
                        rfl
                      refine pure_ (i := 4) (N := some 105) (v := ?_) (a' := ?_) #[true, true, true, true, true, false, false, false, false, false, false, false, false, false, false, false, false] rfl rfl (any_of HT_.out (by kernel_rfl)) (fun _ _ _ h => h) (Or.inl ⟨by rfl, ?_⟩) ?_ ?_
                      rotate_left
                      · intro w'
                        go_simp
                        with_reducible rfl
                      rotate_left
                      · simp only [Act.put, List.setIfInBounds_toArray, List.set_cons_zero, List.set_cons_succ, i64_w, i32_w]
                        rfl
                      refine pure_ (i := 6) (N := some 107) (v := ?_) (a' := ?_) #[true, true, true, true, true, false, true, false, false, false, false, false, false, false, false, false, false] rfl rfl (any_of HT_.out (by kernel_rfl)) (fun _ _ _ h => h) (Or.inl ⟨by rfl, ?_⟩) ?_ ?_
                      rotate_left
                      · intro w'
                        go_simp
                        with_reducible rfl
                      rotate_left
                      · simp only [Act.put, List.setIfInBounds_toArray, List.set_cons_zero, List.set_cons_succ, i64_w, i32_w]
                        rfl
                      refine pure_ (i := 7) (N := some 108) (v := ?_) (a' := ?_) #[true, true, true, true, true, false, true, true, false, false, false, false, false, false, false, false, false] rfl rfl (any_of HT_.out (by kernel_rfl)) (fun _ _ _ h => h) (Or.inl ⟨by rfl, ?_⟩) ?_ ?_
                      rotate_left
                      · intro w'
                        go_simp
                        with_reducible rfl
                      rotate_left
                      · simp only [Act.put, List.setIfInBounds_toArray, List.set_cons_zero, List.set_cons_succ, i64_w, i32_w]
                        rfl
                      refine pure_ (i := 8) (N := some 109) (v := ?_) (a' := ?_) #[true, true, true, true, true, false, true, true, true, false, false, false, false, false, false, false, false] rfl rfl (any_of HT_.out (by kernel_rfl)) (fun _ _ _ h => h) (Or.inl ⟨by rfl, ?_⟩) ?_ ?_
                      rotate_left
                      · intro w'
                        go_simp
                        with_reducible rfl
                      rotate_left
                      · simp only [Act.put, List.setIfInBounds_toArray, List.set_cons_zero, List.set_cons_succ, i64_w, i32_w]
                        rfl
                      refine pure_ (i := 9) (N := some 110) (v := ?_) (a' := ?_) #[true, true, true, true, true, false, true, true, true, true, false, false, false, false, false, false, false] rfl rfl (any_of HT_.out (by kernel_rfl)) (fun _ _ _ h => h) (Or.inl ⟨by rfl, ?_⟩) ?_ ?_
                      rotate_left
                      · intro w'
                        go_simp
                        with_reducible rfl
                      rotate_left
                      · simp only [Act.put, List.setIfInBounds_toArray, List.set_cons_zero, List.set_cons_succ, i64_w, i32_w]
                        rfl
                      refine take_ (i := 5) (N := some 106) (v := ?_) (a' := ?_) #[true, true, true, true, true, true, true, true, true, true, false, false, false, false, false, false, false] rfl rfl (take_ofW HT_.out HW_.out (by kernel_rfl)) (fun _ _ _ h => h) (Or.inl ⟨by rfl, ?_⟩) hHeld ?_ ?_
                      rotate_left
                      · rintro w' ⟨s0, s1, s2, s3, s4, s5⟩
                        go_simp
                        with_reducible rfl
                      rotate_left
                      · simp only [Act.put, List.setIfInBounds_toArray, List.set_cons_zero, List.set_cons_succ, i64_w, i32_w]
                        rfl
                      refine take_ (i := 10) (N := some 111) (v := ?_) (a' := ?_) #[true, true, true, true, true, true, true, true, true, true, true, false, false, false, false, false, false] rfl rfl (take_ofW HT_.out HW_.out (by kernel_rfl)) (fun _ _ _ h => h) (Or.inl ⟨by rfl, ?_⟩) hHeld ?_ ?_
                      rotate_left
                      · rintro w' ⟨s0, s1, s2, s3, s4, s5⟩
                        go_simp
                        with_reducible rfl
                      rotate_left
                      · simp only [Act.put, List.setIfInBounds_toArray, List.set_cons_zero, List.set_cons_succ, i64_w, i32_w]
                        rfl
                      refine one_ (i := 11) (N := some 112) #[true, true, true, true, true, true, true, true, true, true, true, true, false, false, false, false, false] rfl rfl (one_of HT_.out (by kernel_rfl)) (by decide) (fun K hK => ?_)
                      refine goes_ Try.func7 (by kernel_rfl) rfl #[.slice Ao54 t422.length co54, .string ((rd_T27 t408 x18_2).f0), .string ((rd_T27 t408 x18_2).f1)] (by rfl) rfl rfl (by (try simp only [List.map_toArray, List.map_cons, List.map_nil]); first | done | rfl | (simp only [List.length_drop, List.length_take]; rfl)) ?_
                      with_reducible refine (impl_BlockNamed.calls k2 _ _ t422 ((rd_T27 t408 x18_2).f0) ((rd_T27 t408 x18_2).f1) t434 t435 _ ?side1 ?side2 A47.out).mono ?_
                      (case side1 => repeat (first | exact (Kd.R_reads' HO_14.out).2.2 | (with_reducible refine Kd.C_alloc ?_ _) | (with_reducible refine Kd.C_drewN ?_ _) | (with_reducible refine Kd.C_drew ?_)))
                      (case side2 => exact (Kd.R_reads' HO_14.out).2.1)
                      rintro e w55 ⟨rfl, hb⟩
                      have HS0_ := (hb.cell (World.block_lt_of_cell? _ _ (hHeld.1))).trans (hHeld.1)
                      have HS1_ := (hb.cell (World.block_lt_of_cell? _ _ (hHeld.2.1))).trans (hHeld.2.1)
                      have HS2_ := (hb.cell (World.block_lt_of_cell? _ _ (hHeld.2.2.1))).trans (hHeld.2.2.1)
                      have HS3_ := (hb.cell (World.block_lt_of_cell? _ _ (hHeld.2.2.2.1))).trans (hHeld.2.2.2.1)
                      have HS4_ := (hb.cell (World.block_lt_of_cell? _ _ (hHeld.2.2.2.2.1))).trans (hHeld.2.2.2.2.1)
                      have HS5_ := (hb.cell (World.block_lt_of_cell? _ _ (hHeld.2.2.2.2.2))).trans (hHeld.2.2.2.2.2)
                      refine ⟨_, rfl, ?_⟩
                      have n0_ := Aside0.mk (Kd.R_below (by (with_reducible repeat (first | apply Kd.R_alloc | apply Kd.R_drewN | apply Kd.R_drew)); exact HO_5.out) hb)
                      have n1_ := Aside0.mk (Kd.R_below (by (with_reducible repeat (first | apply Kd.R_alloc | apply Kd.R_drewN | apply Kd.R_drew)); exact HO_6.out) hb)
                      have n2_ := Aside0.mk (Kd.R_below (by (with_reducible repeat (first | apply Kd.R_alloc | apply Kd.R_drewN | apply Kd.R_drew)); exact HO_14.out) hb)
                      have n3_ := Aside0.mk (blk_below (g := gb411) (o := .cells #[.string (⟨#[110, 101, 119]⟩ : ByteArray), .string (⟨#[120]⟩ : ByteArray), .string (⟨#[116]⟩ : ByteArray)] 27 (0, 0)) (by (with_reducible repeat (first | refine blk_drewN ?_ _ | refine blk_drew ?_ | refine blk_alloc ?_ _)); exact BK411.out) hb)
                      have n4_ := Aside0.mk (below_step (by repeat (first | (with_reducible first | exact HB.out | apply below_alloc | apply pw_below_drewN | apply below_drew1 | refine below_set ?_ GE411.out) | exact HB.out)) hb)
                      clear HO_5
                      clear HO_6
                      clear HO_14
                      clear BK411
                      clear HB
                      have HO_5 := n0_
                      have HO_6 := n1_
                      have HO_14 := n2_
                      have BK411 := n3_
                      have HB := n4_
                      clear n0_ n1_ n2_ n3_ n4_
                      (try clear hb)
                      (try clear hb2)
                      (try clear hk)
                      (try clear hi)
                      refine hK.out _ _ ⟨HS0_, HS1_, HS2_, HS3_, HS4_, HS5_⟩ (fun hHeld => ?_)
                      clear hK K
                      refine norm_ (a' := ?_) ?_ ?_
                      rotate_left
                      · show Act.put _ (some 112) _ = _
                        simp only [Act.put, List.setIfInBounds_toArray, List.set_cons_zero, List.set_cons_succ, i64_w, i32_w]
                        rfl
                      refine pure_ (i := 12) (N := some 100) (v := ?_) (a' := ?_) #[true, true, true, true, true, true, true, true, true, true, true, true, true, false, false, false, false] rfl rfl (any_of HT_.out (by kernel_rfl)) (fun _ _ _ h => h) (Or.inl ⟨by rfl, ?_⟩) ?_ ?_
                      rotate_left
                      · intro w'
                        go_simp
                        with_reducible rfl
                      rotate_left
                      · simp only [Act.put, List.setIfInBounds_toArray, List.set_cons_zero, List.set_cons_succ, i64_w, i32_w]
                        rfl
                      refine pure_ (i := 13) (N := some 113) (v := ?_) (a' := ?_) #[true, true, true, true, true, true, true, true, true, true, true, true, true, true, false, false, false] rfl rfl (any_of HT_.out (by kernel_rfl)) (fun _ _ _ h => h) (Or.inl ⟨by rfl, ?_⟩) ?_ ?_
                      rotate_left
                      · intro w'
                        go_simp
                        with_reducible rfl
                      rotate_left
                      · simp only [Act.put, List.setIfInBounds_toArray, List.set_cons_zero, List.set_cons_succ, i64_w, i32_w]
                        rfl
                      refine pure_ (i := 14) (N := some 114) (v := ?_) (a' := ?_) #[true, true, true, true, true, true, true, true, true, true, true, true, true, true, true, false, false] rfl rfl (any_of HT_.out (by kernel_rfl)) (fun _ _ _ h => h) (Or.inl ⟨by rfl, ?_⟩) ?_ ?_
                      rotate_left
                      · intro w'
                        go_simp
                        with_reducible rfl
                      rotate_left
                      · simp only [Act.put, List.setIfInBounds_toArray, List.set_cons_zero, List.set_cons_succ, i64_w, i32_w]
                        rfl
                      refine pure_ (i := 15) (N := some 19) (v := ?_) (a' := ?_) #[true, true, true, true, true, true, true, true, true, true, true, true, true, true, true, true, false] rfl rfl (any_of HT_.out (by kernel_rfl)) (fun _ _ _ h => h) (Or.inl ⟨by rfl, ?_⟩) ?_ ?_
                      rotate_left
                      · intro w'
                        go_simp
                        with_reducible rfl
                      rotate_left
                      · simp only [Act.put, List.setIfInBounds_toArray, List.set_cons_zero, List.set_cons_succ, i64_w, i32_w]
                        rfl
                      refine pure_ (i := 16) (N := some 20) (v := ?_) (a' := ?_) #[true, true, true, true, true, true, true, true, true, true, true, true, true, true, true, true, true] rfl rfl (any_of HT_.out (by kernel_rfl)) (fun _ _ _ h => h) (Or.inl ⟨by rfl, ?_⟩) ?_ ?_
                      rotate_left
                      · intro w'
                        go_simp
                        with_reducible rfl
                      rotate_left
                      · simp only [Act.put, List.setIfInBounds_toArray, List.set_cons_zero, List.set_cons_succ, i64_w, i32_w]
                        rfl
                      refine done_ (done_of HT_.out (by kernel_rfl)) ?_
                      have p436 : 0 ≤ (x18_2 : Int) := of_decide_eq_true (by first | (with_reducible assumption) | assumption)
                      have q436 : x18_2 < (t408.length : Int) := of_decide_eq_true (by first | (with_reducible assumption) | assumption)
                      obtain ⟨ad436, e436, hx436_0, hx436_1, hx436_2⟩ := at_T27 (Kd.R_reads' HO_6.out).2.2 x18_2 p436 q436
                      obtain rfl : ad432 = ad436 := (by injection e436)
                      replace p436 := eq_true p436
                      replace q436 := eq_true q436
                      try go_wp2
                      go_ret
                      exact ⟨by first | rfl | (simp [errW_none, errW_some] <;> rfl) | (simp [*, errW_none, errW_some] <;> rfl), by repeat (first | (with_reducible first | exact HB.out | apply below_alloc | apply pw_below_drewN | apply below_drew1 | refine below_set ?_ GE411.out) | exact HB.out)⟩
                  · rw [if_neg c48] at H
                    have c48b0 : (t435 == 0) = false := beq_eq_false_iff_ne.mpr c48
                    have c48b1 : (t435 != 0) = true := bne_iff_ne.mpr c48
                    obtain rfl := Option.some.inj H
                    try go_wp2
                    have n0_ := Aside0.mk (Kd.R_drew HO_5.out)
                    have n1_ := Aside0.mk (Kd.R_drew HO_6.out)
                    have n2_ := Aside0.mk (Kd.R_drew HO_14.out)
                    have n3_ := Aside0.mk (blk_drew BK411.out)
                    have n4_ := Aside0.mk (below_drew1 HB.out)
                    clear HO_5
                    clear HO_6
                    clear HO_14
                    clear BK411
                    clear HB
                    have HO_5 := n0_
                    have HO_6 := n1_
                    have HO_14 := n2_
                    have BK411 := n3_
                    have HB := n4_
                    clear n0_ n1_ n2_ n3_ n4_
                    have p432 : 0 ≤ (x18_2 : Int) := of_decide_eq_true (by first | (with_reducible assumption) | assumption)
                    have q432 : x18_2 < (t408.length : Int) := of_decide_eq_true (by first | (with_reducible assumption) | assumption)
                    obtain ⟨ad432, e432, hx432_0, hx432_1, hx432_2⟩ := at_T27 (Kd.R_reads' HO_6.out).2.2 x18_2 p432 q432
                    cases e432
                    replace p432 := eq_true p432
                    replace q432 := eq_true q432
                    have p433 : 0 ≤ (x18_2 : Int) := of_decide_eq_true (by first | (with_reducible assumption) | assumption)
                    have q433 : x18_2 < (t408.length : Int) := of_decide_eq_true (by first | (with_reducible assumption) | assumption)
                    obtain ⟨ad433, e433, hx433_0, hx433_1, hx433_2⟩ := at_T27 (Kd.R_reads' HO_6.out).2.2 x18_2 p433 q433
                    obtain rfl : ad432 = ad433 := (by injection e433)
                    replace p433 := eq_true p433
                    replace q433 := eq_true q433
                    obtain ⟨Ao57, co57, eo57⟩ := Kd.R_slice HO_14.out
                    (first | subst eo57 | (injection eo57 with f1_ f2_ f3_; have f4_ := f1_.symm; have f5_ := f3_.symm; clear f1_ f2_ f3_; subst f4_; subst f5_))
                    refine start_ (n := 17) (S := fun w' => w'.cell? (ad432.add ((x18_2).toNat * 3)) = some (.string ((rd_T27 t408 x18_2).f0)) ∧ w'.cell? ⟨(ad432.add ((x18_2).toNat * 3)).block, (ad432.add ((x18_2).toNat * 3)).off + 1, none⟩ = some (.string ((rd_T27 t408 x18_2).f1)) ∧ w'.cell? ⟨(ad432.add ((x18_2).toNat * 3)).block, (ad432.add ((x18_2).toNat * 3)).off + 2, none⟩ = some (.string ((rd_T27 t408 x18_2).f2)) ∧ w'.cell? (ad432.add ((x18_2).toNat * 3)) = some (.string ((rd_T27 t408 x18_2).f0)) ∧ w'.cell? ⟨(ad432.add ((x18_2).toNat * 3)).block, (ad432.add ((x18_2).toNat * 3)).off + 1, none⟩ = some (.string ((rd_T27 t408 x18_2).f1)) ∧ w'.cell? ⟨(ad432.add ((x18_2).toNat * 3)).block, (ad432.add ((x18_2).toNat * 3)).off + 2, none⟩ = some (.string ((rd_T27 t408 x18_2).f2))) (ds := []) #[false, false, false, false, false, false, false, false, false, false, false, false, false, false, false, false, false] (by kernel_rfl) rfl rfl ⟨hx432_0, hx432_1, hx432_2, hx433_0, hx433_1, hx433_2⟩ (fun hHeld => ?_); refine with_tabW laws_FnBlocks.tab16 laws_FnBlocks.bits16 (fun HT_ HW_ => ?_)
                    generalize wr.drew = w56 at HO_5 HO_6 HO_14 BK411 HB hx432_0 hx432_1 hx432_2 hx433_0 hx433_1 hx433_2 hHeld ⊢
                    refine pure_ (i := 0) (N := some 101) (v := ?_) (a' := ?_) #[true, false, false, false, false, false, false, false, false, false, false, false, false, false, false, false, false] rfl rfl (any_of HT_.out (by kernel_rfl)) (fun _ _ _ h => h) (Or.inl ⟨by rfl, ?_⟩) ?_ ?_
                    rotate_left
                    · intro w'
                      go_simp
                      with_reducible rfl
                    rotate_left
                    · simp only [Act.put, List.setIfInBounds_toArray, List.set_cons_zero, List.set_cons_succ, i64_w, i32_w]
                      rfl
                    refine pure_ (i := 1) (N := some 102) (v := ?_) (a' := ?_) #[true, true, false, false, false, false, false, false, false, false, false, false, false, false, false, false, false] rfl rfl (any_of HT_.out (by kernel_rfl)) (fun _ _ _ h => h) (Or.inl ⟨by rfl, ?_⟩) ?_ ?_
                    rotate_left
                    · intro w'
                      go_simp
                      with_reducible rfl
                    rotate_left
                    · simp only [Act.put, List.setIfInBounds_toArray, List.set_cons_zero, List.set_cons_succ, i64_w, i32_w]
                      rfl
                    refine pure_ (i := 2) (N := some 103) (v := ?_) (a' := ?_) #[true, true, true, false, false, false, false, false, false, false, false, false, false, false, false, false, false] rfl rfl (any_of HT_.out (by kernel_rfl)) (fun _ _ _ h => h) (Or.inl ⟨by rfl, ?_⟩) ?_ ?_
                    rotate_left
                    · intro w'
                      go_simp
                      with_reducible rfl
                    rotate_left
                    · simp only [Act.put, List.setIfInBounds_toArray, List.set_cons_zero, List.set_cons_succ, i64_w, i32_w]
                      rfl
                    refine pure_ (i := 3) (N := some 104) (v := ?_) (a' := ?_) #[true, true, true, true, false, false, false, false, false, false, false, false, false, false, false, false, false] rfl rfl (any_of HT_.out (by kernel_rfl)) (fun _ _ _ h => h) (Or.inl ⟨by rfl, ?_⟩) ?_ ?_
                    rotate_left
                    · intro w'
                      go_simp
                      with_reducible rfl
                    rotate_left
                    · simp only [Act.put, List.setIfInBounds_toArray, List.set_cons_zero, List.set_cons_succ, i64_w, i32_w]
                      rfl
                    refine pure_ (i := 4) (N := some 105) (v := ?_) (a' := ?_) #[true, true, true, true, true, false, false, false, false, false, false, false, false, false, false, false, false] rfl rfl (any_of HT_.out (by kernel_rfl)) (fun _ _ _ h => h) (Or.inl ⟨by rfl, ?_⟩) ?_ ?_
                    rotate_left
                    · intro w'
                      go_simp
                      with_reducible rfl
                    rotate_left
                    · simp only [Act.put, List.setIfInBounds_toArray, List.set_cons_zero, List.set_cons_succ, i64_w, i32_w]
                      rfl
                    refine pure_ (i := 6) (N := some 107) (v := ?_) (a' := ?_) #[true, true, true, true, true, false, true, false, false, false, false, false, false, false, false, false, false] rfl rfl (any_of HT_.out (by kernel_rfl)) (fun _ _ _ h => h) (Or.inl ⟨by rfl, ?_⟩) ?_ ?_
                    rotate_left
                    · intro w'
                      go_simp
                      with_reducible rfl
                    rotate_left
                    · simp only [Act.put, List.setIfInBounds_toArray, List.set_cons_zero, List.set_cons_succ, i64_w, i32_w]
                      rfl
                    refine pure_ (i := 7) (N := some 108) (v := ?_) (a' := ?_) #[true, true, true, true, true, false, true, true, false, false, false, false, false, false, false, false, false] rfl rfl (any_of HT_.out (by kernel_rfl)) (fun _ _ _ h => h) (Or.inl ⟨by rfl, ?_⟩) ?_ ?_
                    rotate_left
                    · intro w'
                      go_simp
                      with_reducible rfl
                    rotate_left
                    · simp only [Act.put, List.setIfInBounds_toArray, List.set_cons_zero, List.set_cons_succ, i64_w, i32_w]
                      rfl
                    refine pure_ (i := 8) (N := some 109) (v := ?_) (a' := ?_) #[true, true, true, true, true, false, true, true, true, false, false, false, false, false, false, false, false] rfl rfl (any_of HT_.out (by kernel_rfl)) (fun _ _ _ h => h) (Or.inl ⟨by rfl, ?_⟩) ?_ ?_
                    rotate_left
                    · intro w'
                      go_simp
                      with_reducible rfl
                    rotate_left
                    · simp only [Act.put, List.setIfInBounds_toArray, List.set_cons_zero, List.set_cons_succ, i64_w, i32_w]
                      rfl
                    refine pure_ (i := 9) (N := some 110) (v := ?_) (a' := ?_) #[true, true, true, true, true, false, true, true, true, true, false, false, false, false, false, false, false] rfl rfl (any_of HT_.out (by kernel_rfl)) (fun _ _ _ h => h) (Or.inl ⟨by rfl, ?_⟩) ?_ ?_
                    rotate_left
                    · intro w'
                      go_simp
                      with_reducible rfl
                    rotate_left
                    · simp only [Act.put, List.setIfInBounds_toArray, List.set_cons_zero, List.set_cons_succ, i64_w, i32_w]
                      rfl
                    refine take_ (i := 5) (N := some 106) (v := ?_) (a' := ?_) #[true, true, true, true, true, true, true, true, true, true, false, false, false, false, false, false, false] rfl rfl (take_ofW HT_.out HW_.out (by kernel_rfl)) (fun _ _ _ h => h) (Or.inl ⟨by rfl, ?_⟩) hHeld ?_ ?_
                    rotate_left
                    · rintro w' ⟨s0, s1, s2, s3, s4, s5⟩
                      go_simp
                      with_reducible rfl
                    rotate_left
                    · simp only [Act.put, List.setIfInBounds_toArray, List.set_cons_zero, List.set_cons_succ, i64_w, i32_w]
                      rfl
                    refine take_ (i := 10) (N := some 111) (v := ?_) (a' := ?_) #[true, true, true, true, true, true, true, true, true, true, true, false, false, false, false, false, false] rfl rfl (take_ofW HT_.out HW_.out (by kernel_rfl)) (fun _ _ _ h => h) (Or.inl ⟨by rfl, ?_⟩) hHeld ?_ ?_
                    rotate_left
                    · rintro w' ⟨s0, s1, s2, s3, s4, s5⟩
                      go_simp
                      with_reducible rfl
                    rotate_left
                    · simp only [Act.put, List.setIfInBounds_toArray, List.set_cons_zero, List.set_cons_succ, i64_w, i32_w]
                      rfl
                    refine one_ (i := 11) (N := some 112) #[true, true, true, true, true, true, true, true, true, true, true, true, false, false, false, false, false] rfl rfl (one_of HT_.out (by kernel_rfl)) (by decide) (fun K hK => ?_)
                    refine goes_ Try.func7 (by kernel_rfl) rfl #[.slice Ao57 t422.length co57, .string ((rd_T27 t408 x18_2).f0), .string ((rd_T27 t408 x18_2).f1)] (by rfl) rfl rfl (by (try simp only [List.map_toArray, List.map_cons, List.map_nil]); first | done | rfl | (simp only [List.length_drop, List.length_take]; rfl)) ?_
                    with_reducible refine (impl_BlockNamed.calls k2 _ _ t422 ((rd_T27 t408 x18_2).f0) ((rd_T27 t408 x18_2).f1) t434 t435 _ ?side1 ?side2 A47.out).mono ?_
                    (case side1 => repeat (first | exact (Kd.R_reads' HO_14.out).2.2 | (with_reducible refine Kd.C_alloc ?_ _) | (with_reducible refine Kd.C_drewN ?_ _) | (with_reducible refine Kd.C_drew ?_)))
                    (case side2 => exact (Kd.R_reads' HO_14.out).2.1)
                    rintro e w58 ⟨rfl, hb⟩
                    have HS0_ := (hb.cell (World.block_lt_of_cell? _ _ (hHeld.1))).trans (hHeld.1)
                    have HS1_ := (hb.cell (World.block_lt_of_cell? _ _ (hHeld.2.1))).trans (hHeld.2.1)
                    have HS2_ := (hb.cell (World.block_lt_of_cell? _ _ (hHeld.2.2.1))).trans (hHeld.2.2.1)
                    have HS3_ := (hb.cell (World.block_lt_of_cell? _ _ (hHeld.2.2.2.1))).trans (hHeld.2.2.2.1)
                    have HS4_ := (hb.cell (World.block_lt_of_cell? _ _ (hHeld.2.2.2.2.1))).trans (hHeld.2.2.2.2.1)
                    have HS5_ := (hb.cell (World.block_lt_of_cell? _ _ (hHeld.2.2.2.2.2))).trans (hHeld.2.2.2.2.2)
                    refine ⟨_, rfl, ?_⟩
                    have n0_ := Aside0.mk (Kd.R_below (by (with_reducible repeat (first | apply Kd.R_alloc | apply Kd.R_drewN | apply Kd.R_drew)); exact HO_5.out) hb)
                    have n1_ := Aside0.mk (Kd.R_below (by (with_reducible repeat (first | apply Kd.R_alloc | apply Kd.R_drewN | apply Kd.R_drew)); exact HO_6.out) hb)
                    have n2_ := Aside0.mk (Kd.R_below (by (with_reducible repeat (first | apply Kd.R_alloc | apply Kd.R_drewN | apply Kd.R_drew)); exact HO_14.out) hb)
                    have n3_ := Aside0.mk (blk_below (g := gb411) (o := .cells #[.string (⟨#[110, 101, 119]⟩ : ByteArray), .string (⟨#[120]⟩ : ByteArray), .string (⟨#[116]⟩ : ByteArray)] 27 (0, 0)) (by (with_reducible repeat (first | refine blk_drewN ?_ _ | refine blk_drew ?_ | refine blk_alloc ?_ _)); exact BK411.out) hb)
                    have n4_ := Aside0.mk (below_step (by repeat (first | (with_reducible first | exact HB.out | apply below_alloc | apply pw_below_drewN | apply below_drew1 | refine below_set ?_ GE411.out) | exact HB.out)) hb)
                    clear HO_5
                    clear HO_6
                    clear HO_14
                    clear BK411
                    clear HB
                    have HO_5 := n0_
                    have HO_6 := n1_
                    have HO_14 := n2_
                    have BK411 := n3_
                    have HB := n4_
                    clear n0_ n1_ n2_ n3_ n4_
                    (try clear hb)
                    (try clear hb2)
                    (try clear hk)
                    (try clear hi)
                    refine hK.out _ _ ⟨HS0_, HS1_, HS2_, HS3_, HS4_, HS5_⟩ (fun hHeld => ?_)
                    clear hK K
                    refine norm_ (a' := ?_) ?_ ?_
                    rotate_left
                    · show Act.put _ (some 112) _ = _
                      simp only [Act.put, List.setIfInBounds_toArray, List.set_cons_zero, List.set_cons_succ, i64_w, i32_w]
                      rfl
                    refine pure_ (i := 12) (N := some 100) (v := ?_) (a' := ?_) #[true, true, true, true, true, true, true, true, true, true, true, true, true, false, false, false, false] rfl rfl (any_of HT_.out (by kernel_rfl)) (fun _ _ _ h => h) (Or.inl ⟨by rfl, ?_⟩) ?_ ?_
                    rotate_left
                    · intro w'
                      go_simp
                      with_reducible rfl
                    rotate_left
                    · simp only [Act.put, List.setIfInBounds_toArray, List.set_cons_zero, List.set_cons_succ, i64_w, i32_w]
                      rfl
                    refine pure_ (i := 13) (N := some 113) (v := ?_) (a' := ?_) #[true, true, true, true, true, true, true, true, true, true, true, true, true, true, false, false, false] rfl rfl (any_of HT_.out (by kernel_rfl)) (fun _ _ _ h => h) (Or.inl ⟨by rfl, ?_⟩) ?_ ?_
                    rotate_left
                    · intro w'
                      go_simp
                      with_reducible rfl
                    rotate_left
                    · simp only [Act.put, List.setIfInBounds_toArray, List.set_cons_zero, List.set_cons_succ, i64_w, i32_w]
                      rfl
                    refine pure_ (i := 14) (N := some 114) (v := ?_) (a' := ?_) #[true, true, true, true, true, true, true, true, true, true, true, true, true, true, true, false, false] rfl rfl (any_of HT_.out (by kernel_rfl)) (fun _ _ _ h => h) (Or.inl ⟨by rfl, ?_⟩) ?_ ?_
                    rotate_left
                    · intro w'
                      go_simp
                      with_reducible rfl
                    rotate_left
                    · simp only [Act.put, List.setIfInBounds_toArray, List.set_cons_zero, List.set_cons_succ, i64_w, i32_w]
                      rfl
                    refine pure_ (i := 15) (N := some 19) (v := ?_) (a' := ?_) #[true, true, true, true, true, true, true, true, true, true, true, true, true, true, true, true, false] rfl rfl (any_of HT_.out (by kernel_rfl)) (fun _ _ _ h => h) (Or.inl ⟨by rfl, ?_⟩) ?_ ?_
                    rotate_left
                    · intro w'
                      go_simp
                      with_reducible rfl
                    rotate_left
                    · simp only [Act.put, List.setIfInBounds_toArray, List.set_cons_zero, List.set_cons_succ, i64_w, i32_w]
                      rfl
                    refine pure_ (i := 16) (N := some 20) (v := ?_) (a' := ?_) #[true, true, true, true, true, true, true, true, true, true, true, true, true, true, true, true, true] rfl rfl (any_of HT_.out (by kernel_rfl)) (fun _ _ _ h => h) (Or.inl ⟨by rfl, ?_⟩) ?_ ?_
                    rotate_left
                    · intro w'
                      go_simp
                      with_reducible rfl
                    rotate_left
                    · simp only [Act.put, List.setIfInBounds_toArray, List.set_cons_zero, List.set_cons_succ, i64_w, i32_w]
                      rfl
                    refine done_ (done_of HT_.out (by kernel_rfl)) ?_
                    try go_wp2
                    go_ret
                    exact ⟨by first | rfl | (simp [errW_none, errW_some] <;> rfl) | (simp [*, errW_none, errW_some] <;> rfl), by repeat (first | (with_reducible first | exact HB.out | apply below_alloc | apply pw_below_drewN | apply below_drew1 | refine below_set ?_ GE411.out) | exact HB.out)⟩
                · rw [if_neg c46] at H
                  exact absurd H (by simp)
              · rw [if_neg c45] at H
                have c45b0 : decide (x18_2 < (t408.length : Int)) = false := decide_eq_false c45
                clear c45
                obtain rfl := Option.some.inj H
                obtain ⟨Ao59, co59, eo59⟩ := Kd.R_slice HO_14.out
                subst eo59
                go_wp2
                go_ret
                exact ⟨by first | rfl | (simp [errW_none, errW_some] <;> rfl) | (simp [*, errW_none, errW_some] <;> rfl), by repeat (first | (with_reducible first | exact HB.out | apply below_alloc | apply pw_below_drewN | apply below_drew1 | refine below_set ?_ GE411.out) | exact HB.out)⟩

/-- THE ONE PURE STATEMENT of laws_FnBlocks: yours. -/
def laws_FnBlocks.Pure : Prop := ∀ (l0 : List Int) (l1 : List Int), l0.length ≤ maxLen → l0.length * 1 ≤ 140737488351232 → (∀ x ∈ l0, (Lit.int .u8 x).wf = true) → l1.length ≤ maxLen → l1.length * 1 ≤ 140737488351232 → (∀ x ∈ l1, (Lit.int .u8 x).wf = true) → ∃ k, laws_FnBlocks.f k l0 l1 = some true
theorem laws_FnBlocks.walk (P : laws_FnBlocks.Pure) (a0 : Option Addr) (len0 cap0 : Nat) (z0 : List Int) (a1 : Option Addr) (len1 cap1 : Nat) (z1 : List Int) (w : World) (w0 : (a0 = none ∧ len0 = 0 ∧ cap0 = 0 ∧ z0 = []) ∨ ∃ x, a0 = some x ∧ len0 ≤ cap0 ∧ cap0 ≤ maxLen ∧ z0.length = cap0 ∧ (∀ i, i < z0.length → w.cell? (x.add i) = some (.int .u8 (z0.getD i 0))) ∧ ∀ n ∈ z0, (Lit.int .u8 n).wf = true) (y0 : len0 * 1 ≤ 140737488351232) (w1 : (a1 = none ∧ len1 = 0 ∧ cap1 = 0 ∧ z1 = []) ∨ ∃ x, a1 = some x ∧ len1 ≤ cap1 ∧ cap1 ≤ maxLen ∧ z1.length = cap1 ∧ (∀ i, i < z1.length → w.cell? (x.add i) = some (.int .u8 (z1.getD i 0))) ∧ ∀ n ∈ z1, (Lit.int .u8 n).wf = true) (y1 : len1 * 1 ≤ 140737488351232) :
    Calls Try.prog 3 #[.slice a0 len0 cap0, .slice a1 len1 cap1] w fun e w' => e = .returned (.bool true) ∧ Below w.heap.size w w' := by
  obtain ⟨l0, rfl, hr0, hm0, hw0, hc0⟩ := ReadsInt.ofRowC w0
  obtain ⟨l1, rfl, hr1, hm1, hw1, hc1⟩ := ReadsInt.ofRowC w1
  obtain ⟨k, h⟩ := P l0 l1 hm0 y0 hw0 hm1 y1 hw1
  refine (laws_FnBlocks.calls k _ _ l0 _ _ l1 true w (Kd.C_of_reads (d := (0 : Int)) (h1 := fun _ => rfl) hr0) hc0 (Kd.C_of_reads (d := (0 : Int)) (h1 := fun _ => rfl) hr1) hc1 h).mono ?_
  rintro e w' ⟨rfl, hd⟩
  exact ⟨rfl, hd⟩

end Go.Proofs.Ytocaadjpibepaaa.P

/- Plain words on the source of choices: each draw comes to an answer in its bounds, and the place in the source goes on by a few steps. No condition beyond the bytes being bytes and a place that has room. -/
namespace Go.Proofs.Ytocaadjpibepaaa.P
open Go.RowKit Go.Proofs.YtocaadjpibepaaaW.PrintWords Go.Proofs.YtocaadjpibepaaaW.PrintLast Go.Proofs.YtocaadjpibepaaaW.PrintMore
set_option linter.unusedVariables false
set_option linter.unusedSimpArgs false
def Bys (c : List Int) : Prop := ∀ x ∈ c, 0 ≤ x ∧ x ≤ 255
/-- The place p is within n steps of the beginning. -/
def At (p : Int) (n : Nat) : Prop := 0 ≤ p ∧ p ≤ (n : Int) ∧ n ≤ 4000000000000000000
theorem rd_bys {c : List Int} (hc : Bys c) (i : Int) : 0 ≤ rd c i ∧ rd c i ≤ 255 := by
  unfold rd
  by_cases h : i.toNat < c.length
  · have : c.getD i.toNat 0 = c[i.toNat] := by simp [List.getD_eq_getElem?_getD, List.getElem?_eq_getElem h]
    rw [this]
    exact hc _ (List.getElem_mem h)
  · have : c.getD i.toNat 0 = 0 := by simp [List.getD_eq_getElem?_getD, List.getElem?_eq_none (Nat.le_of_not_lt h)]
    rw [this]
    omega
theorem u64_wrap (n : Int) : IntKind.u64.wrap n = n % 18446744073709551616 := by simp [IntKind.wrap, IntKind.bits, IntKind.signed]
theorem and255 (y : Int) : 0 ≤ Go.bits .and .u64 (IntKind.u64.wrap y / 1099511627776) 255 ∧ Go.bits .and .u64 (IntKind.u64.wrap y / 1099511627776) 255 ≤ 255 := by
  have h := u64_wrap y
  have e : Go.bits .and .u64 (IntKind.u64.wrap y / 1099511627776) 255 = (IntKind.u64.wrap y / 1099511627776) % 256 :=
    bits_mask .u64 64 (by decide) (fun n h0 h1 => by rw [u64_wrap]; omega) 8 (by decide) _ (by omega) (by omega)
  rw [e]
  omega
theorem next_ev {c : List Int} (hc : Bys c) {p : Int} {n : Nat} (hp : At p n) (hn : n + 1 ≤ 4000000000000000000) (s : Int) : ∃ v s', spec_l00Src_next.f c p s = some (v, p + 1, s') ∧ 0 ≤ v ∧ v ≤ 255 := by
  obtain ⟨h0, h1, h2⟩ := hp
  unfold spec_l00Src_next.f
  have hw : wrap64 (p + 1) = p + 1 := wrap64_of (by omega) (by omega)
  have hb := rd_bys hc p
  by_cases h : p < (c.length : Int)
  · rw [if_pos h, if_pos h0, hw, if_pos (by omega)]
    exact ⟨_, _, rfl, by rw [wrap64_of (by omega) (by omega)]; omega, by rw [wrap64_of (by omega) (by omega)]; omega⟩
  · rw [if_neg h, hw, if_neg (by omega)]
    have := and255 (IntKind.u64.wrap (IntKind.u64.wrap (s * 6364136223846793005)) + 1442695040888963407)
    exact ⟨_, _, rfl, by rw [wrap64_of (by omega) (by omega)]; omega, by rw [wrap64_of (by omega) (by omega)]; omega⟩
theorem tmod_in {x a : Int} (hx : 0 ≤ x) (ha : 0 < a) : 0 ≤ Int.tmod x a ∧ Int.tmod x a < a := by
  rw [Int.tmod_eq_emod_of_nonneg hx]
  exact ⟨Int.emod_nonneg _ (by omega), Int.emod_lt_of_pos _ ha⟩
theorem pick_ev {c : List Int} (hc : Bys c) {p : Int} {n : Nat} (hp : At p n) (hn : n + 2 ≤ 4000000000000000000) (s a : Int) : ∃ v p' s', spec_l00Src_pick.f c p s a = some (v, p', s') ∧ At p' (n + 2) ∧ 0 ≤ v ∧ (v < a ∨ v = 0) := by
  unfold spec_l00Src_pick.f
  have hp0 := hp
  obtain ⟨h0, h1, h2⟩ := hp
  by_cases h : a ≤ 1
  · rw [if_pos h]
    exact ⟨0, p, s, rfl, ⟨h0, by omega, by omega⟩, by omega, .inr rfl⟩
  · rw [if_neg h]
    obtain ⟨v, s1, e1, v0, v1⟩ := next_ev hc hp0 (by omega) s
    rw [e1, Option.bind_some]
    by_cases h3 : a > 200
    · rw [if_pos h3]
      obtain ⟨u, s2, e2, u0, u1⟩ := next_ev hc (p := p + 1) (n := n + 1) ⟨by omega, by omega, by omega⟩ (by omega) s1
      rw [e2, Option.bind_some, if_neg (by omega)]
      have hw : wrap64 (wrap64 (v * 256) + u) = v * 256 + u := by rw [wrap64_of (x := v * 256) (by omega) (by omega), wrap64_of (by omega) (by omega)]
      rw [hw]
      have := tmod_in (x := v * 256 + u) (a := a) (by omega) (by omega)
      exact ⟨_, p + 1 + 1, s2, rfl, ⟨by omega, by omega, by omega⟩, this.1, .inl this.2⟩
    · rw [if_neg h3, if_neg (by omega)]
      have := tmod_in (x := v) (a := a) (by omega) (by omega)
      exact ⟨_, p + 1, s1, rfl, ⟨by omega, by omega, by omega⟩, this.1, .inl this.2⟩
theorem one_ev {c : List Int} (hc : Bys c) {p : Int} {n : Nat} (hp : At p n) (hn : n + 2 ≤ 4000000000000000000) (s a : Int) : ∃ v p' s', spec_l00Src_one.f c p s a = some (v, p', s') ∧ At p' (n + 2) := by
  obtain ⟨v, p', s', e, h, _, _⟩ := pick_ev hc hp hn s a
  unfold spec_l00Src_one.f
  rw [e, Option.bind_some]
  exact ⟨_, _, _, rfl, h⟩
theorem rdOf_mem {l : List ByteArray} {v : Int} (h0 : 0 ≤ v) (h : v < (l.length : Int)) : rdOf ByteArray.empty l v ∈ l := by
  have hlt : v.toNat < l.length := by omega
  have : rdOf ByteArray.empty l v = l[v.toNat] := by simp [rdOf, List.getD_eq_getElem?_getD, List.getElem?_eq_getElem hlt]
  rw [this]
  exact List.getElem_mem hlt
theorem rd_mem {l : List Int} {v : Int} (h0 : 0 ≤ v) (h : v < (l.length : Int)) : rd l v ∈ l := by
  have hlt : v.toNat < l.length := by omega
  have : rd l v = l[v.toNat] := by simp [rd, List.getD_eq_getElem?_getD, List.getElem?_eq_getElem hlt]
  rw [this]
  exact List.getElem_mem hlt
theorem pick_lt {c : List Int} (hc : Bys c) {p : Int} {n : Nat} (hp : At p n) (hn : n + 2 ≤ 4000000000000000000) (s a : Int) (ha : 0 < a) : ∃ v p' s', spec_l00Src_pick.f c p s a = some (v, p', s') ∧ At p' (n + 2) ∧ 0 ≤ v ∧ v < a := by
  obtain ⟨v, p', s', e, h1, h2, h3⟩ := pick_ev hc hp hn s a
  exact ⟨v, p', s', e, h1, h2, h3.elim id (fun h => by omega)⟩
theorem At.more {p : Int} {n m : Nat} (h : At p n) (hm : n ≤ m) (hl : m ≤ 4000000000000000000) : At p m := ⟨h.1, by have := h.2.1; omega, hl⟩
theorem text_ev {c : List Int} (hc : Bys c) {p : Int} {n : Nat} (hp : At p n) (hn : n + 2 ≤ 4000000000000000000) (s : Int) (l : List ByteArray) (hl : 0 < l.length) : ∃ v p' s', spec_l00Src_text.f c p s l = some (v, p', s') ∧ At p' (n + 2) ∧ v ∈ l := by
  obtain ⟨v, p', s', e, h1, h2, h3⟩ := pick_lt hc hp hn s (l.length : Int) (by omega)
  unfold spec_l00Src_text.f
  rw [e, Option.bind_some, if_pos h2, if_pos h3]
  exact ⟨_, p', s', rfl, h1, rdOf_mem h2 h3⟩
theorem among_ev {c : List Int} (hc : Bys c) {p : Int} {n : Nat} (hp : At p n) (hn : n + 2 ≤ 4000000000000000000) (s : Int) (l : List Int) (hl : 0 < l.length) : ∃ v p' s', spec_l00Src_among.f c p s l = some (v, p', s') ∧ At p' (n + 2) ∧ v ∈ l := by
  obtain ⟨v, p', s', e, h1, h2, h3⟩ := pick_lt hc hp hn s (l.length : Int) (by omega)
  unfold spec_l00Src_among.f
  rw [e, Option.bind_some, if_pos h2, if_pos h3]
  exact ⟨_, p', s', rfl, h1, rd_mem h2 h3⟩
theorem word_ev {c : List Int} (hc : Bys c) {p : Int} {n : Nat} (hp : At p n) (s a : Int) (ha : 0 < a) (ha2 : a ≤ 1000) (hn : n + 2000 ≤ 4000000000000000000) : EvP (fun k => spec_l00Src_word.f k c p s a) (fun r => r.1.size ≤ 1000 ∧ At r.2.1 (n + 1002)) := by
  obtain ⟨v, p', s', e, h1, h2, h3⟩ := pick_lt hc hp (by omega) s a ha
  unfold spec_l00Src_word.f
  refine EvP.opt e ?_
  obtain ⟨m, rfl⟩ : ∃ m : Nat, v = m := ⟨v.toNat, by omega⟩
  refine EvP.down (fun k (t : List Int × Int × Int) i => spec_l00Src_word.l0 k t.1 i c t.2.1 t.2.2) (fun t i => t.1.length + i ≤ 1000 ∧ At t.2.1 (n + 1002 - i)) _ ?_ ?_ m ([], p', s') ⟨by simp; omega, ⟨h1.1, by have := h1.2.1; dsimp only; omega, by omega⟩⟩
  · rintro ⟨o, q, t⟩ ⟨h4, h5⟩
    refine EvP.step (fun k => spec_l00Src_word.l0.eq_2 _ _ _ _ _ k) (EvP.neg (by decide) (EvP.now _ ⟨?_, by simpa using h5⟩))
    rw [strOfNums_size]
    simpa using h4
  · rintro i ⟨o, q, t⟩ ⟨h4, h5⟩ ih
    dsimp only at h4 h5 ⊢
    obtain ⟨u, t', e', u0, u1⟩ := next_ev hc h5 (by omega) t
    refine EvP.step (fun k => spec_l00Src_word.l0.eq_2 _ _ _ _ _ k) (EvP.pos (by omega) (EvP.opt e' (EvP.pos (by omega) ?_)))
    rw [wrap64_dn (by omega) (by omega)]
    exact ih (o ++ [u % 256], q + 1, t') ⟨by simp; omega, ⟨by have := h5.1; dsimp only; omega, by have := h5.2.1; dsimp only; omega, by omega⟩⟩
end Go.Proofs.Ytocaadjpibepaaa.P

/- Plain words on names, texts' order and small tests: which the printed functions come to. No condition. -/
namespace Go.Proofs.Ytocaadjpibepaaa.P
open Go.RowKit Go.Proofs.YtocaadjpibepaaaW.PrintWords Go.Proofs.YtocaadjpibepaaaW.PrintLast Go.Proofs.YtocaadjpibepaaaW.PrintMore
set_option linter.unusedVariables false
set_option linter.unusedSimpArgs false
/-! ### names -/
def okb (c : Int) : Bool := decide (97 ≤ c ∧ c ≤ 122) || decide (48 ≤ c ∧ c ≤ 57)
def nameB (s : ByteArray) : Bool := decide (1 ≤ s.size ∧ s.size ≤ 10) && (decide (97 ≤ bt s 0 ∧ bt s 0 ≤ 122) && allF (fun i => okb (bt s i)) s.size 0)
theorem toList_nil (s : ByteArray) : s.toList = ([] : List UInt8) ↔ s.size = 0 := by
  rw [ByteArray.toList_eq, ← data_length, List.length_eq_zero_iff]
theorem small_ev (c : Int) : spec_l01Small.f c = some (decide (97 ≤ c ∧ c ≤ 122)) := by
  unfold spec_l01Small.f
  by_cases h : c ≥ 97
  · rw [if_pos h]; congr 1; simp; omega
  · rw [if_neg h]; congr 1; simp; omega
theorem digit_ev (c : Int) : spec_l01Digit.f c = some (decide (48 ≤ c ∧ c ≤ 57)) := by
  unfold spec_l01Digit.f
  by_cases h : c ≥ 48
  · rw [if_pos h]; congr 1; simp; omega
  · rw [if_neg h]; congr 1; simp; omega
theorem specName_ev (s : ByteArray) : Ev (fun k => spec_l01Name.f k s) (nameB s) := by
  have hj : Ev (fun k => spec_l01Name.j0 k s true) false := Ev.step (f := fun k => some false) (fun k => by simp [spec_l01Name.j0]) (Ev.now _)
  unfold spec_l01Name.f
  by_cases h0 : s.size = 0
  · refine Ev.pos ((toList_nil s).2 h0) (hj.eq ?_)
    simp [nameB, h0]
  · refine Ev.neg (fun h => h0 ((toList_nil s).1 h)) ?_
    by_cases h1 : (s.size : Int) > 10
    · refine Ev.pos h1 (hj.eq ?_)
      have : ¬ s.size ≤ 10 := by omega
      simp [nameB, this]
    · refine Ev.neg h1 (Ev.pos (by omega) ?_)
      simp only [small_ev, Option.bind_some]
      have h2 : decide (1 ≤ s.size ∧ s.size ≤ 10) = true := by simp; omega
      unfold nameB
      rw [h2, Bool.true_and]
      by_cases h3 : 97 ≤ bt s 0 ∧ bt s 0 ≤ 122
      · rw [decide_eq_true h3, Bool.true_and]
        refine Ev.step (f := fun k => spec_l01Name.l0 k s 0) (fun k => by simp [spec_l01Name.j0]) ?_
        have := Ev.allR (L := fun k i => spec_l01Name.l0 k s i) (fun i => okb (bt s i)) s.size true ?_ ?_
        · simpa using this
        · exact Ev.step (f := fun k => some true) (fun k => by simp [spec_l01Name.l0]) (Ev.now _)
        · intro i hi r hr
          have e1 : (i : Int) < (s.size : Int) := by omega
          have e2 : (0 : Int) ≤ (i : Int) := by omega
          by_cases c1 : 97 ≤ bt s i ∧ bt s i ≤ 122
          · refine Ev.step (f := fun k => spec_l01Name.l0 k s ((i + 1 : Nat) : Int)) (fun k => ?_) (hr.eq ?_)
            · simp only [spec_l01Name.l0, if_pos e1, if_pos e2, small_ev, Option.bind_some, decide_eq_true c1, if_true]
              rw [wrap64_up (by omega)]
            · simp [okb, c1]
          · by_cases c2 : 48 ≤ bt s i ∧ bt s i ≤ 57
            · refine Ev.step (f := fun k => spec_l01Name.l0 k s ((i + 1 : Nat) : Int)) (fun k => ?_) (hr.eq ?_)
              · simp only [spec_l01Name.l0, if_pos e1, if_pos e2, small_ev, digit_ev, Option.bind_some, decide_eq_false c1, decide_eq_true c2, if_true, Bool.false_eq_true, if_false]
                rw [wrap64_up (by omega)]
              · simp [okb, c2]
            · refine Ev.step (f := fun k => some false) (fun k => ?_) ((Ev.now _).eq ?_)
              · simp only [spec_l01Name.l0, if_pos e1, if_pos e2, small_ev, digit_ev, Option.bind_some, decide_eq_false c1, decide_eq_false c2, Bool.false_eq_true, if_false]
              · simp [okb, c1, c2]
      · rw [decide_eq_false h3, Bool.false_and]
        exact hj
theorem implName_ev (s : ByteArray) : Ev (fun k => impl_IsName.f k s) (nameB s) := by
  unfold impl_IsName.f
  by_cases h0 : (s.size : Int) < 1
  · refine Ev.pos h0 ((Ev.now _).eq ?_)
    have : ¬ 1 ≤ s.size := by omega
    simp [nameB, this]
  refine Ev.neg h0 ?_
  by_cases h1 : (s.size : Int) > 10
  · refine Ev.pos h1 ((Ev.now _).eq ?_)
    have : ¬ s.size ≤ 10 := by omega
    simp [nameB, this]
  refine Ev.neg h1 (Ev.pos (by omega) ?_)
  have h2 : decide (1 ≤ s.size ∧ s.size ≤ 10) = true := by simp; omega
  unfold nameB
  rw [h2, Bool.true_and]
  by_cases h3 : (bt s 0) < 97
  · refine Ev.pos h3 ((Ev.now _).eq ?_)
    have : ¬ 97 ≤ bt s 0 := by omega
    simp [this]
  refine Ev.neg h3 ?_
  by_cases h4 : (bt s 0) > 122
  · refine Ev.pos h4 ((Ev.now _).eq ?_)
    have : ¬ bt s 0 ≤ 122 := by omega
    simp [this]
  refine Ev.neg h4 ?_
  rw [decide_eq_true (show 97 ≤ bt s 0 ∧ bt s 0 ≤ 122 by omega), Bool.true_and]
  refine Ev.bind (a := allF (fun i => okb (bt s i)) s.size 0) ?_ (Ev.now _)
  unfold impl_onlyNameBytes.f
  have := Ev.allR (L := fun k i => impl_onlyNameBytes.l0 k s (s.size : Int) i) (fun i => okb (bt s i)) s.size true ?_ ?_
  · simpa using this
  · exact Ev.step (f := fun k => some true) (fun k => by simp [impl_onlyNameBytes.l0]) (Ev.now _)
  · intro i hi r hr
    have e1 : (i : Int) < (s.size : Int) := by omega
    have e2 : (0 : Int) ≤ (i : Int) := by omega
    have key : okb (bt s i) = true ∧ (∀ k, impl_onlyNameBytes.l0 (k + 1) s (s.size : Int) (i : Int) = impl_onlyNameBytes.l0 k s (s.size : Int) ((i + 1 : Nat) : Int)) ∨ okb (bt s i) = false ∧ (∀ k, impl_onlyNameBytes.l0 (k + 1) s (s.size : Int) (i : Int) = some false) := by
      simp only [impl_onlyNameBytes.l0, if_pos e1, if_pos e2]
      rw [wrap64_up (by omega)]
      unfold okb
      by_cases a1 : bt s i < 97 <;> by_cases a2 : bt s i < 48 <;> by_cases a3 : bt s i > 57 <;> by_cases a4 : bt s i > 122 <;> simp [a1, a2, a3, a4] <;> omega
    rcases key with ⟨k1, k2⟩ | ⟨k1, k2⟩
    · exact Ev.step k2 (hr.eq (by rw [k1, Bool.true_and]))
    · exact Ev.step k2 ((Ev.now _).eq (by rw [k1, Bool.false_and]))
end Go.Proofs.Ytocaadjpibepaaa.P
