/- The texts Px24 to YN, one behind the other: what functions of the program, its reference and its laws come to, and what follows. No condition beyond what each theorem names. -/
import Derived.Test.YtfjnjcefcoboaaaZRelationOf0
import Derived.Test.YtfjnjcefcoboaaaZRelationOf1
import Derived.Maps.Own
import Derived.Maps.OwnOps
import Derived.Maps.OwnSet
import Derived.Maps.Views
import Derived.StringKeys
import Derived.Lib.Hide
import Derived.Outline
-- printed by a program of this session out of the translation
namespace Go.Proofs.Ytfjnjcefcoboaaa.P
open Go.RowKit Go.Proofs.YtfjnjcefcoboaaaW.PrintWords Go.Proofs.YtfjnjcefcoboaaaW.PrintLast Go.Proofs.YtfjnjcefcoboaaaW.PrintMore
attribute [local go_sem] max2_int min2_int max_two min_two max_three min_three max_four min_four   -- for this text's walks alone
set_option linter.unusedVariables false
set_option linter.unusedSimpArgs false

/-! ### impl_ValidPersons: function 44 -/
mutual
def impl_ValidPersons.l0 : Nat → List (S38) → List (S38) → Int → Int → Option (Bool)
  | 0, _, _, _, _ => none
  | k + 1, x0, x11, x12, x13 => if x13 < x12 then (if 0 ≤ x13 then (if x13 < (x11.length : Int) then ((impl_IsName.f k ((rd_T38 x11 x13).f0)).bind fun t183 => (if t183 = true then ((impl_within.f ((rd_T38 x11 x13).f1) 0 3000).bind fun t184 => (if t184 = true then (if (((rd_T38 x11 x13).f2).length : Int) > 4 then (impl_ValidPersons.j1 k x0 x11 x12 x13 true ((rd_T38 x11 x13).f0) ((rd_T38 x11 x13).f1) ((rd_T38 x11 x13).f2)) else (if x13 > 0 then (if 0 ≤ (wrap64 (x13 - 1)) then (if (wrap64 (x13 - 1)) < (x0.length : Int) then (impl_ValidPersons.j1 k x0 x11 x12 x13 (!(Op.bytesLess (((rd_T38 x0 (wrap64 (x13 - 1))).f0).toList) (((rd_T38 x11 x13).f0).toList))) ((rd_T38 x11 x13).f0) ((rd_T38 x11 x13).f1) ((rd_T38 x11 x13).f2)) else (none)) else (none)) else (impl_ValidPersons.j1 k x0 x11 x12 x13 false ((rd_T38 x11 x13).f0) ((rd_T38 x11 x13).f1) ((rd_T38 x11 x13).f2)))) else (impl_ValidPersons.j1 k x0 x11 x12 x13 true ((rd_T38 x11 x13).f0) ((rd_T38 x11 x13).f1) ((rd_T38 x11 x13).f2)))) else (impl_ValidPersons.j1 k x0 x11 x12 x13 true ((rd_T38 x11 x13).f0) ((rd_T38 x11 x13).f1) ((rd_T38 x11 x13).f2)))) else (none)) else (none)) else (some true)
def impl_ValidPersons.j1 : Nat → List (S38) → List (S38) → Int → Int → Bool → ByteArray → Int → List ByteArray → Option (Bool)
  | 0, _, _, _, _, _, _, _, _ => none
  | k + 1, x0, x11, x12, x13, x48, x183000, x183001, x183002 => if x48 = true then (some false) else (impl_ValidPersons.l1 k x0 x11 x12 x13 x183002 (x183002.length : Int) 0 x183000 x183001 x183002)
def impl_ValidPersons.l1 : Nat → List (S38) → List (S38) → Int → Int → List ByteArray → Int → Int → ByteArray → Int → List ByteArray → Option (Bool)
  | 0, _, _, _, _, _, _, _, _, _, _ => none
  | k + 1, x0, x11, x12, x13, x50, x51, x52, x183000, x183001, x183002 => if x52 < x51 then (if 0 ≤ x52 then (if x52 < (x50.length : Int) then ((impl_personAt.f k x0 (rdOf ByteArray.empty x50 x52)).bind fun t187 => (if t187 < 0 then (some false) else (if 0 ≤ t187 then (if t187 < (x0.length : Int) then (if ((rd_T38 x0 t187).f1) ≥ x183001 then (some false) else (if x52 > 0 then (if 0 ≤ (wrap64 (x52 - 1)) then (if (wrap64 (x52 - 1)) < (x183002.length : Int) then (if ((Op.bytesLess ((rdOf ByteArray.empty x183002 (wrap64 (x52 - 1))).toList) ((rdOf ByteArray.empty x50 x52).toList)) = true) then (impl_ValidPersons.l1 k x0 x11 x12 x13 x50 x51 (wrap64 (x52 + 1)) x183000 x183001 x183002) else (some false)) else (none)) else (none)) else (impl_ValidPersons.l1 k x0 x11 x12 x13 x50 x51 (wrap64 (x52 + 1)) x183000 x183001 x183002))) else (none)) else (none)))) else (none)) else (none)) else (impl_ValidPersons.l0 k x0 x11 x12 (wrap64 (x13 + 1)))
end
def impl_ValidPersons.f (k : Nat) (l0 : List (S38)) : Option (Bool) := if (l0.length : Int) > 24 then (some false) else (impl_ValidPersons.l0 k l0 l0 (l0.length : Int) 0)
theorem impl_ValidPersons.mono_l : ∀ k, (∀ y0 y1 y2 y3, LeO (impl_ValidPersons.l0 k y0 y1 y2 y3) (impl_ValidPersons.l0 (k + 1) y0 y1 y2 y3)) ∧ (∀ y0 y1 y2 y3 y4 y5 y6 y7, LeO (impl_ValidPersons.j1 k y0 y1 y2 y3 y4 y5 y6 y7) (impl_ValidPersons.j1 (k + 1) y0 y1 y2 y3 y4 y5 y6 y7)) ∧ (∀ y0 y1 y2 y3 y4 y5 y6 y7 y8 y9, LeO (impl_ValidPersons.l1 k y0 y1 y2 y3 y4 y5 y6 y7 y8 y9) (impl_ValidPersons.l1 (k + 1) y0 y1 y2 y3 y4 y5 y6 y7 y8 y9))
  | 0 => ⟨fun _ _ _ _ r h => by simp [impl_ValidPersons.l0] at h, fun _ _ _ _ _ _ _ _ r h => by simp [impl_ValidPersons.j1] at h, fun _ _ _ _ _ _ _ _ _ _ r h => by simp [impl_ValidPersons.l1] at h⟩
  | k + 1 => by
    obtain ⟨ih0, ih1, ih2⟩ := impl_ValidPersons.mono_l k
    refine ⟨?_, ?_, ?_⟩
    · intro y0 y1 y2 y3
      unfold impl_ValidPersons.l0
      repeat' first
      | (with_reducible exact ih0 _ _ _ _)
      | (with_reducible exact ih1 _ _ _ _ _ _ _ _)
      | (with_reducible exact ih2 _ _ _ _ _ _ _ _ _ _)
      | (with_reducible exact impl_IsName.mono _ _)
      | (with_reducible exact impl_personAt.mono _ _ _)
      | (with_reducible exact LeO.refl _)
      | (with_reducible exact LeO.none _)
      | (with_reducible refine LeO.ite ?_ ?_)
      | (with_reducible refine LeO.bind ?_ (fun _ => ?_))
      | exact ih0 _ _ _ _
      | exact ih1 _ _ _ _ _ _ _ _
      | exact ih2 _ _ _ _ _ _ _ _ _ _
      | exact impl_IsName.mono _ _
      | exact impl_personAt.mono _ _ _
      | exact LeO.none _
      | refine LeO.ite ?_ ?_
      | refine LeO.bind ?_ (fun _ => ?_)
    · intro y0 y1 y2 y3 y4 y5 y6 y7
      unfold impl_ValidPersons.j1
      repeat' first
      | (with_reducible exact ih0 _ _ _ _)
      | (with_reducible exact ih1 _ _ _ _ _ _ _ _)
      | (with_reducible exact ih2 _ _ _ _ _ _ _ _ _ _)
      | (with_reducible exact impl_IsName.mono _ _)
      | (with_reducible exact impl_personAt.mono _ _ _)
      | (with_reducible exact LeO.refl _)
      | (with_reducible exact LeO.none _)
      | (with_reducible refine LeO.ite ?_ ?_)
      | (with_reducible refine LeO.bind ?_ (fun _ => ?_))
      | exact ih0 _ _ _ _
      | exact ih1 _ _ _ _ _ _ _ _
      | exact ih2 _ _ _ _ _ _ _ _ _ _
      | exact impl_IsName.mono _ _
      | exact impl_personAt.mono _ _ _
      | exact LeO.none _
      | refine LeO.ite ?_ ?_
      | refine LeO.bind ?_ (fun _ => ?_)
    · intro y0 y1 y2 y3 y4 y5 y6 y7 y8 y9
      unfold impl_ValidPersons.l1
      repeat' first
      | (with_reducible exact ih0 _ _ _ _)
      | (with_reducible exact ih1 _ _ _ _ _ _ _ _)
      | (with_reducible exact ih2 _ _ _ _ _ _ _ _ _ _)
      | (with_reducible exact impl_IsName.mono _ _)
      | (with_reducible exact impl_personAt.mono _ _ _)
      | (with_reducible exact LeO.refl _)
      | (with_reducible exact LeO.none _)
      | (with_reducible refine LeO.ite ?_ ?_)
      | (with_reducible refine LeO.bind ?_ (fun _ => ?_))
      | exact ih0 _ _ _ _
      | exact ih1 _ _ _ _ _ _ _ _
      | exact ih2 _ _ _ _ _ _ _ _ _ _
      | exact impl_IsName.mono _ _
      | exact impl_personAt.mono _ _ _
      | exact LeO.none _
      | refine LeO.ite ?_ ?_
      | refine LeO.bind ?_ (fun _ => ?_)
theorem impl_ValidPersons.mono : ∀ a0 k, LeO (impl_ValidPersons.f k a0) (impl_ValidPersons.f (k + 1) a0) := by
  intro a0 k
  obtain ⟨ih0, ih1, ih2⟩ := impl_ValidPersons.mono_l k
  unfold impl_ValidPersons.f
  repeat' first
      | (with_reducible exact ih0 _ _ _ _)
      | (with_reducible exact ih1 _ _ _ _ _ _ _ _)
      | (with_reducible exact ih2 _ _ _ _ _ _ _ _ _ _)
      | (with_reducible exact impl_IsName.mono _ _)
      | (with_reducible exact impl_personAt.mono _ _ _)
      | (with_reducible exact LeO.refl _)
      | (with_reducible exact LeO.none _)
      | (with_reducible refine LeO.ite ?_ ?_)
      | (with_reducible refine LeO.bind ?_ (fun _ => ?_))
      | exact ih0 _ _ _ _
      | exact ih1 _ _ _ _ _ _ _ _
      | exact ih2 _ _ _ _ _ _ _ _ _ _
      | exact impl_IsName.mono _ _
      | exact impl_personAt.mono _ _ _
      | exact LeO.none _
      | refine LeO.ite ?_ ?_
      | refine LeO.bind ?_ (fun _ => ?_)
set_option maxHeartbeats 8000000 in
set_option maxRecDepth 100000 in
theorem impl_ValidPersons.calls (k : Nat) (A0 : Option Addr) (c0 : Nat) (l0 : List (S38)) (r : Bool) (w : World) (hr0 : Kd.C k38 w A0 l0.length l0) (hc0 : l0.length ≤ c0) (h : impl_ValidPersons.f k l0 = some r) :
    Calls Try.prog 44 #[.slice A0 l0.length c0] w fun e w' => e = .returned (.bool r) ∧ Below w.heap.size w w' := by
  have hu38 := Try.underlying38
  have HR0 := Aside0.mk hr0
  have HC0 := Aside0.mk hc0
  clear hr0 hc0
  have HB := Aside0.mk (Below.refl w.heap.size w)
  have H : (if (l0.length : Int) > 24 then (some false) else (impl_ValidPersons.l0 k l0 l0 (l0.length : Int) 0)) = some r := h
  clear h
  by_cases c2 : (l0.length : Int) > 24
  · rw [if_pos c2] at H
    have c2b0 : decide (24 < (l0.length : Int)) = true := decide_eq_true c2
    have c2b1 : decide (24 < l0.length) = true := decide_eq_true (by omega)
    clear c2
    obtain rfl := Option.some.inj H
    go_enter Try.func44, Try.ntmps44
    go_wp2
    repeat (go_quiet (fail); try go_wp2)
    go_ret
    exact ⟨by first | rfl | (simp [errW_none, errW_some] <;> rfl) | (simp [*, errW_none, errW_some] <;> rfl), by repeat (first | (with_reducible first | exact HB.out | apply below_alloc | apply pw_below_drewN | apply below_drew1) | exact HB.out)⟩
  · rw [if_neg c2] at H
    have c2b0 : decide (24 < (l0.length : Int)) = false := decide_eq_false c2
    have c2b1 : decide (24 < l0.length) = false := decide_eq_false (by omega)
    clear c2
    have H' := Aside0.mk H
    clear H
    go_enter Try.func44, Try.ntmps44
    go_wp2
    repeat (go_quiet (fail); try go_wp2)
    go_loopg [13] k (fun kq v13 w' => ∃ (x13_1 : Int), v13 = .int .i64 x13_1 ∧ Aside0 (impl_ValidPersons.l0 kq l0 l0 (l0.length : Int) x13_1 = some r) ∧ Aside0 (kq ≤ k) ∧ Aside0 (Below w.heap.size w w'))
    case atStart => exact ⟨(0), (by first | rfl | (simp; done) | (simp [*]; done)), H', ⟨Nat.le_refl _⟩, ⟨by repeat (first | (with_reducible first | exact HB.out | apply below_alloc | apply pw_below_drewN | apply below_drew1) | exact HB.out)⟩⟩
    case round =>
      clear H'
      try clear c2
      try clear c2b0
      try clear c2b1
      try clear p2
      obtain ⟨x13_1, rfl, HA, HK1, HB⟩ := hrel
      cases gk with
      | zero => exact absurd HA.out (by simp [impl_ValidPersons.l0])
      | succ k1 =>
        have H := HA.out
        clear HA
        simp only [impl_ValidPersons.l0] at H
        by_cases c3 : x13_1 < (l0.length : Int)
        · rw [if_pos c3] at H
          have c3b0 : decide (x13_1 < (l0.length : Int)) = true := decide_eq_true c3
          clear c3
          by_cases c4 : 0 ≤ x13_1
          · rw [if_pos c4] at H
            have c4b0 : decide (0 ≤ x13_1) = true := decide_eq_true c4
            clear c4
            by_cases c5 : x13_1 < (l0.length : Int)
            · rw [if_pos c5] at H
              have c5b0 : decide (x13_1 < (l0.length : Int)) = true := decide_eq_true c5
              clear c5
              have HC6 := Aside0.mk H
              clear H
              have p181 : 0 ≤ (x13_1 : Int) := of_decide_eq_true (by first | (with_reducible assumption) | assumption)
              have q181 : x13_1 < (l0.length : Int) := of_decide_eq_true (by first | (with_reducible assumption) | assumption)
              obtain ⟨ad181, A181_2, c181_2, e181, hx181_0, hx181_1, hx181_2, hl181_2, hi181_2⟩ := at_T38 HR0.out x13_1 p181 q181
              cases e181
              replace hx181_0 := (HB.out.cell (World.block_lt_of_cell? w _ hx181_0)).trans hx181_0
              replace hx181_1 := (HB.out.cell (World.block_lt_of_cell? w _ hx181_1)).trans hx181_1
              replace hx181_2 := (HB.out.cell (World.block_lt_of_cell? w _ hx181_2)).trans hx181_2
              have HR181_2 := Aside0.mk hi181_2
              have HC181_2 := Aside0.mk hl181_2
              clear hi181_2 hl181_2
              replace p181 := eq_true p181
              replace q181 := eq_true q181
              go_upto_region 6 with (first | ((with_reducible refine gate_dst (N := 4) rfl ?_); (try (refine gate_guard (by rfl) ?_; dsimp only)); refine box_event ?hg (N := 4) ?hd (cs := #[.string (⟨#[]⟩ : ByteArray), .int .i64 0, .slice none 0 0]) (t := 38) ?hr ?_; (case hd => rfl); (case hg => rfl); (case hr => first | (go_simp; done) | (go_simp; rfl)); intro gb182 hg w7 hbox hb; have n0_ := Aside0.mk (below_step (by repeat (first | (with_reducible first | exact HB.out | apply below_alloc | apply pw_below_drewN | apply below_drew1) | exact HB.out)) hb); have n1_ := Aside0.mk (hbox); have n2_ := Aside0.mk ((by rw [hg]; exact (below_size (by repeat (first | (with_reducible first | exact HB.out | apply below_alloc | apply pw_below_drewN | apply below_drew1) | exact HB.out))) : w.heap.size ≤ gb182)); have n3_ := Aside0.mk ((by rw [hg]; exact (below_size (by repeat (first | (with_reducible first | exact HB.out | apply below_alloc | apply pw_below_drewN | apply below_drew1) | exact HB.out))) : w.heap.size ≤ gb182)); clear HB; have HB := n0_; have BK182 := n1_; have GW182 := n2_; have GE182 := n3_; clear n0_ n1_ n2_ n3_; clear hb hbox hg; have hcz8_0 : w7.cell? ⟨gb182, 0, none⟩ = some (.string (⟨#[]⟩ : ByteArray)) := (blk_cell BK182.out 0).trans rfl; have hcz8_1 : w7.cell? ⟨gb182, 1, none⟩ = some (.int .i64 0) := (blk_cell BK182.out 1).trans rfl; have hcz8_2 : w7.cell? ⟨gb182, 2, none⟩ = some (.slice none 0 0) := (blk_cell BK182.out 2).trans rfl; have hfz8_0 := blk_frozen BK182.out 0; have hfz8_1 := blk_frozen BK182.out 1; have hfz8_2 := blk_frozen BK182.out 2))
              repeat (go_quiet (first | ((with_reducible refine gate_dst (N := 4) rfl ?_); (try (refine gate_guard (by rfl) ?_; dsimp only)); refine box_event ?hg (N := 4) ?hd (cs := #[.string (⟨#[]⟩ : ByteArray), .int .i64 0, .slice none 0 0]) (t := 38) ?hr ?_; (case hd => rfl); (case hg => rfl); (case hr => first | (go_simp; done) | (go_simp; rfl)); intro gb182 hg w7 hbox hb; have n0_ := Aside0.mk (below_step (by repeat (first | (with_reducible first | exact HB.out | apply below_alloc | apply pw_below_drewN | apply below_drew1) | exact HB.out)) hb); have n1_ := Aside0.mk (hbox); have n2_ := Aside0.mk ((by rw [hg]; exact (below_size (by repeat (first | (with_reducible first | exact HB.out | apply below_alloc | apply pw_below_drewN | apply below_drew1) | exact HB.out))) : w.heap.size ≤ gb182)); have n3_ := Aside0.mk ((by rw [hg]; exact (below_size (by repeat (first | (with_reducible first | exact HB.out | apply below_alloc | apply pw_below_drewN | apply below_drew1) | exact HB.out))) : w.heap.size ≤ gb182)); clear HB; have HB := n0_; have BK182 := n1_; have GW182 := n2_; have GE182 := n3_; clear n0_ n1_ n2_ n3_; clear hb hbox hg; have hcz8_0 : w7.cell? ⟨gb182, 0, none⟩ = some (.string (⟨#[]⟩ : ByteArray)) := (blk_cell BK182.out 0).trans rfl; have hcz8_1 : w7.cell? ⟨gb182, 1, none⟩ = some (.int .i64 0) := (blk_cell BK182.out 1).trans rfl; have hcz8_2 : w7.cell? ⟨gb182, 2, none⟩ = some (.slice none 0 0) := (blk_cell BK182.out 2).trans rfl; have hfz8_0 := blk_frozen BK182.out 0; have hfz8_1 := blk_frozen BK182.out 1; have hfz8_2 := blk_frozen BK182.out 2)); go_upto_region 6 with (first | ((with_reducible refine gate_dst (N := 4) rfl ?_); (try (refine gate_guard (by rfl) ?_; dsimp only)); refine box_event ?hg (N := 4) ?hd (cs := #[.string (⟨#[]⟩ : ByteArray), .int .i64 0, .slice none 0 0]) (t := 38) ?hr ?_; (case hd => rfl); (case hg => rfl); (case hr => first | (go_simp; done) | (go_simp; rfl)); intro gb182 hg w7 hbox hb; have n0_ := Aside0.mk (below_step (by repeat (first | (with_reducible first | exact HB.out | apply below_alloc | apply pw_below_drewN | apply below_drew1) | exact HB.out)) hb); have n1_ := Aside0.mk (hbox); have n2_ := Aside0.mk ((by rw [hg]; exact (below_size (by repeat (first | (with_reducible first | exact HB.out | apply below_alloc | apply pw_below_drewN | apply below_drew1) | exact HB.out))) : w.heap.size ≤ gb182)); have n3_ := Aside0.mk ((by rw [hg]; exact (below_size (by repeat (first | (with_reducible first | exact HB.out | apply below_alloc | apply pw_below_drewN | apply below_drew1) | exact HB.out))) : w.heap.size ≤ gb182)); clear HB; have HB := n0_; have BK182 := n1_; have GW182 := n2_; have GE182 := n3_; clear n0_ n1_ n2_ n3_; clear hb hbox hg; have hcz8_0 : w7.cell? ⟨gb182, 0, none⟩ = some (.string (⟨#[]⟩ : ByteArray)) := (blk_cell BK182.out 0).trans rfl; have hcz8_1 : w7.cell? ⟨gb182, 1, none⟩ = some (.int .i64 0) := (blk_cell BK182.out 1).trans rfl; have hcz8_2 : w7.cell? ⟨gb182, 2, none⟩ = some (.slice none 0 0) := (blk_cell BK182.out 2).trans rfl; have hfz8_0 := blk_frozen BK182.out 0; have hfz8_1 := blk_frozen BK182.out 1; have hfz8_2 := blk_frozen BK182.out 2)))
              (try simp only [Act.put, List.setIfInBounds_toArray, List.set_cons_zero, List.set_cons_succ])
              go_cut [48] (fun v48 wc => ∃ (kq : Nat) (x48_5 : Bool), v48 = .bool x48_5 ∧ Aside0 (impl_ValidPersons.j1 kq l0 l0 (l0.length : Int) x13_1 x48_5 ((rd_T38 l0 x13_1).f0) ((rd_T38 l0 x13_1).f1) ((rd_T38 l0 x13_1).f2) = some r) ∧ Aside0 (kq ≤ k1) ∧ Aside0 (wc.heap[gb182]? = some (.cells #[.string ((rd_T38 l0 x13_1).f0), .int .i64 ((rd_T38 l0 x13_1).f1), (.slice A181_2 ((rd_T38 l0 x13_1).f2).length c181_2)] 38 (0, 0))) ∧ Aside0 (Below w.heap.size w wc))
              case first =>
                have H := HC6.out
                clear HC6
                replace H := Option.bind_eq_some_iff.mp H
                obtain ⟨t183, A90, H⟩ := H
                replace H : (if t183 = true then ((impl_within.f ((rd_T38 l0 x13_1).f1) 0 3000).bind fun t184 => (if t184 = true then (if (((rd_T38 l0 x13_1).f2).length : Int) > 4 then (impl_ValidPersons.j1 k1 l0 l0 (l0.length : Int) x13_1 true ((rd_T38 l0 x13_1).f0) ((rd_T38 l0 x13_1).f1) ((rd_T38 l0 x13_1).f2)) else (if x13_1 > 0 then (if 0 ≤ (wrap64 (x13_1 - 1)) then (if (wrap64 (x13_1 - 1)) < (l0.length : Int) then (impl_ValidPersons.j1 k1 l0 l0 (l0.length : Int) x13_1 (!(Op.bytesLess (((rd_T38 l0 (wrap64 (x13_1 - 1))).f0).toList) (((rd_T38 l0 x13_1).f0).toList))) ((rd_T38 l0 x13_1).f0) ((rd_T38 l0 x13_1).f1) ((rd_T38 l0 x13_1).f2)) else (none)) else (none)) else (impl_ValidPersons.j1 k1 l0 l0 (l0.length : Int) x13_1 false ((rd_T38 l0 x13_1).f0) ((rd_T38 l0 x13_1).f1) ((rd_T38 l0 x13_1).f2)))) else (impl_ValidPersons.j1 k1 l0 l0 (l0.length : Int) x13_1 true ((rd_T38 l0 x13_1).f0) ((rd_T38 l0 x13_1).f1) ((rd_T38 l0 x13_1).f2)))) else (impl_ValidPersons.j1 k1 l0 l0 (l0.length : Int) x13_1 true ((rd_T38 l0 x13_1).f0) ((rd_T38 l0 x13_1).f1) ((rd_T38 l0 x13_1).f2))) = some r := H
                have A9 := Aside0.mk A90
                clear A90
                by_cases c10 : t183 = true
                · subst c10
                  have H1 : ((impl_within.f ((rd_T38 l0 x13_1).f1) 0 3000).bind fun t184 => (if t184 = true then (if (((rd_T38 l0 x13_1).f2).length : Int) > 4 then (impl_ValidPersons.j1 k1 l0 l0 (l0.length : Int) x13_1 true ((rd_T38 l0 x13_1).f0) ((rd_T38 l0 x13_1).f1) ((rd_T38 l0 x13_1).f2)) else (if x13_1 > 0 then (if 0 ≤ (wrap64 (x13_1 - 1)) then (if (wrap64 (x13_1 - 1)) < (l0.length : Int) then (impl_ValidPersons.j1 k1 l0 l0 (l0.length : Int) x13_1 (!(Op.bytesLess (((rd_T38 l0 (wrap64 (x13_1 - 1))).f0).toList) (((rd_T38 l0 x13_1).f0).toList))) ((rd_T38 l0 x13_1).f0) ((rd_T38 l0 x13_1).f1) ((rd_T38 l0 x13_1).f2)) else (none)) else (none)) else (impl_ValidPersons.j1 k1 l0 l0 (l0.length : Int) x13_1 false ((rd_T38 l0 x13_1).f0) ((rd_T38 l0 x13_1).f1) ((rd_T38 l0 x13_1).f2)))) else (impl_ValidPersons.j1 k1 l0 l0 (l0.length : Int) x13_1 true ((rd_T38 l0 x13_1).f0) ((rd_T38 l0 x13_1).f1) ((rd_T38 l0 x13_1).f2)))) = some r := by rw [if_pos rfl] at H; exact H
                  clear H
                  have H := H1
                  clear H1
                  replace H := Option.bind_eq_some_iff.mp H
                  obtain ⟨t184, A110, H⟩ := H
                  replace H : (if t184 = true then (if (((rd_T38 l0 x13_1).f2).length : Int) > 4 then (impl_ValidPersons.j1 k1 l0 l0 (l0.length : Int) x13_1 true ((rd_T38 l0 x13_1).f0) ((rd_T38 l0 x13_1).f1) ((rd_T38 l0 x13_1).f2)) else (if x13_1 > 0 then (if 0 ≤ (wrap64 (x13_1 - 1)) then (if (wrap64 (x13_1 - 1)) < (l0.length : Int) then (impl_ValidPersons.j1 k1 l0 l0 (l0.length : Int) x13_1 (!(Op.bytesLess (((rd_T38 l0 (wrap64 (x13_1 - 1))).f0).toList) (((rd_T38 l0 x13_1).f0).toList))) ((rd_T38 l0 x13_1).f0) ((rd_T38 l0 x13_1).f1) ((rd_T38 l0 x13_1).f2)) else (none)) else (none)) else (impl_ValidPersons.j1 k1 l0 l0 (l0.length : Int) x13_1 false ((rd_T38 l0 x13_1).f0) ((rd_T38 l0 x13_1).f1) ((rd_T38 l0 x13_1).f2)))) else (impl_ValidPersons.j1 k1 l0 l0 (l0.length : Int) x13_1 true ((rd_T38 l0 x13_1).f0) ((rd_T38 l0 x13_1).f1) ((rd_T38 l0 x13_1).f2))) = some r := H
                  have A11 := Aside0.mk A110
                  clear A110
                  by_cases c12 : t184 = true
                  · subst c12
                    have H1 : (if (((rd_T38 l0 x13_1).f2).length : Int) > 4 then (impl_ValidPersons.j1 k1 l0 l0 (l0.length : Int) x13_1 true ((rd_T38 l0 x13_1).f0) ((rd_T38 l0 x13_1).f1) ((rd_T38 l0 x13_1).f2)) else (if x13_1 > 0 then (if 0 ≤ (wrap64 (x13_1 - 1)) then (if (wrap64 (x13_1 - 1)) < (l0.length : Int) then (impl_ValidPersons.j1 k1 l0 l0 (l0.length : Int) x13_1 (!(Op.bytesLess (((rd_T38 l0 (wrap64 (x13_1 - 1))).f0).toList) (((rd_T38 l0 x13_1).f0).toList))) ((rd_T38 l0 x13_1).f0) ((rd_T38 l0 x13_1).f1) ((rd_T38 l0 x13_1).f2)) else (none)) else (none)) else (impl_ValidPersons.j1 k1 l0 l0 (l0.length : Int) x13_1 false ((rd_T38 l0 x13_1).f0) ((rd_T38 l0 x13_1).f1) ((rd_T38 l0 x13_1).f2)))) = some r := by rw [if_pos rfl] at H; exact H
                    clear H
                    have H := H1
                    clear H1
                    by_cases c13 : (((rd_T38 l0 x13_1).f2).length : Int) > 4
                    · rw [if_pos c13] at H
                      have c13b0 : decide (4 < (((rd_T38 l0 x13_1).f2).length : Int)) = true := decide_eq_true c13
                      have c13b1 : decide (4 < ((rd_T38 l0 x13_1).f2).length) = true := decide_eq_true (by omega)
                      clear c13
                      (first | rw [c13b0] | (simp only [i64_w, i32_w]; rw [c13b0]) | skip)
                      have H' := Aside0.mk H
                      clear H
                      have hcz14_0 : w7.cell? ⟨gb182, 0, none⟩ = some (.string (⟨#[]⟩ : ByteArray)) := (blk_cell BK182.out 0).trans rfl
                      have hcz14_1 : w7.cell? ⟨gb182, 1, none⟩ = some (.int .i64 0) := (blk_cell BK182.out 1).trans rfl
                      have hcz14_2 : w7.cell? ⟨gb182, 2, none⟩ = some (.slice none 0 0) := (blk_cell BK182.out 2).trans rfl
                      have hfz14_0 := blk_frozen BK182.out 0
                      have hfz14_1 := blk_frozen BK182.out 1
                      have hfz14_2 := blk_frozen BK182.out 2
                      go_wp2_with (first | (go_at_call 73; (with_reducible refine (impl_IsName.calls k1 ((rd_T38 l0 x13_1).f0) true _ A9.out).mono ?_); rintro e w' ⟨rfl, ⟨nd, rfl⟩⟩; (try first | exact ⟨rfl, _, World.drewN_drewN _ _ _⟩ | exact ⟨rfl, _, Eq.trans (World.drewN_drewN _ _ _) (congrArg (World.drewN _) (Nat.add_assoc _ _ _))⟩)) | (go_at_call 74; (with_reducible refine (impl_within.calls ((rd_T38 l0 x13_1).f1) 0 3000 true _ A11.out).mono ?_); rintro e w' ⟨rfl, ⟨nd, rfl⟩⟩; (try first | exact ⟨rfl, _, World.drewN_drewN _ _ _⟩ | exact ⟨rfl, _, Eq.trans (World.drewN_drewN _ _ _) (congrArg (World.drewN _) (Nat.add_assoc _ _ _))⟩)))
                      repeat (go_quiet (first | (go_at_call 73; (with_reducible refine (impl_IsName.calls k1 ((rd_T38 l0 x13_1).f0) true _ A9.out).mono ?_); rintro e w' ⟨rfl, ⟨nd, rfl⟩⟩; (try first | exact ⟨rfl, _, World.drewN_drewN _ _ _⟩ | exact ⟨rfl, _, Eq.trans (World.drewN_drewN _ _ _) (congrArg (World.drewN _) (Nat.add_assoc _ _ _))⟩)) | (go_at_call 74; (with_reducible refine (impl_within.calls ((rd_T38 l0 x13_1).f1) 0 3000 true _ A11.out).mono ?_); rintro e w' ⟨rfl, ⟨nd, rfl⟩⟩; (try first | exact ⟨rfl, _, World.drewN_drewN _ _ _⟩ | exact ⟨rfl, _, Eq.trans (World.drewN_drewN _ _ _) (congrArg (World.drewN _) (Nat.add_assoc _ _ _))⟩))); try go_wp2_with (first | (go_at_call 73; (with_reducible refine (impl_IsName.calls k1 ((rd_T38 l0 x13_1).f0) true _ A9.out).mono ?_); rintro e w' ⟨rfl, ⟨nd, rfl⟩⟩; (try first | exact ⟨rfl, _, World.drewN_drewN _ _ _⟩ | exact ⟨rfl, _, Eq.trans (World.drewN_drewN _ _ _) (congrArg (World.drewN _) (Nat.add_assoc _ _ _))⟩)) | (go_at_call 74; (with_reducible refine (impl_within.calls ((rd_T38 l0 x13_1).f1) 0 3000 true _ A11.out).mono ?_); rintro e w' ⟨rfl, ⟨nd, rfl⟩⟩; (try first | exact ⟨rfl, _, World.drewN_drewN _ _ _⟩ | exact ⟨rfl, _, Eq.trans (World.drewN_drewN _ _ _) (congrArg (World.drewN _) (Nat.add_assoc _ _ _))⟩))))
                      go_meet
                      case rel => exact ⟨_, (true), (by first | rfl | (simp; done) | (simp [*]; done)), H', ⟨by have := HK1.out; first | omega | exact Nat.le_refl _⟩, ⟨by (with_reducible repeat (first | refine blk_drewN ?_ _ | refine blk_drew ?_ | refine blk_alloc ?_ _)); refine blk_put (cs := #[.string ((rd_T38 l0 x13_1).f0), .int .i64 ((rd_T38 l0 x13_1).f1), .slice none 0 0]) ?_ 2 _ rfl; (with_reducible repeat (first | refine blk_drewN ?_ _ | refine blk_drew ?_ | refine blk_alloc ?_ _)); refine blk_put (cs := #[.string ((rd_T38 l0 x13_1).f0), .int .i64 0, .slice none 0 0]) ?_ 1 _ rfl; (with_reducible repeat (first | refine blk_drewN ?_ _ | refine blk_drew ?_ | refine blk_alloc ?_ _)); refine blk_put (cs := #[.string (⟨#[]⟩ : ByteArray), .int .i64 0, .slice none 0 0]) ?_ 0 _ rfl; (with_reducible repeat (first | refine blk_drewN ?_ _ | refine blk_drew ?_ | refine blk_alloc ?_ _)); exact BK182.out⟩, ⟨by repeat (first | (with_reducible first | exact HB.out | apply below_alloc | apply pw_below_drewN | apply below_drew1 | refine below_set ?_ GE182.out) | exact HB.out)⟩⟩
                    · rw [if_neg c13] at H
                      have c13b0 : decide (4 < (((rd_T38 l0 x13_1).f2).length : Int)) = false := decide_eq_false c13
                      have c13b1 : decide (4 < ((rd_T38 l0 x13_1).f2).length) = false := decide_eq_false (by omega)
                      clear c13
                      (first | rw [c13b0] | (simp only [i64_w, i32_w]; rw [c13b0]) | skip)
                      by_cases c15 : x13_1 > 0
                      · rw [if_pos c15] at H
                        have c15b0 : decide (0 < x13_1) = true := decide_eq_true c15
                        clear c15
                        obtain ⟨ji16, hji16⟩ : ∃ j_ : Int, (wrap64 (x13_1 - 1)) = j_ := ⟨_, rfl⟩
                        replace H : (if 0 ≤ (ji16) then (if (ji16) < (l0.length : Int) then (impl_ValidPersons.j1 k1 l0 l0 (l0.length : Int) x13_1 (!(Op.bytesLess (((rd_T38 l0 (ji16)).f0).toList) (((rd_T38 l0 x13_1).f0).toList))) ((rd_T38 l0 x13_1).f0) ((rd_T38 l0 x13_1).f1) ((rd_T38 l0 x13_1).f2)) else (none)) else (none)) = some r := by first | (rw [hji16] at H; exact H) | (simp only [hji16] at H ⊢; exact H)
                        (try rw [hji16] at A9)
                        (try rw [hji16] at A11)
                        have hji16w : (IntKind.i64.wrap (x13_1 - 1)) = ji16 := (i64_w _).trans hji16
                        by_cases c17 : 0 ≤ (ji16)
                        · rw [if_pos c17] at H
                          have c17b0 : decide (0 ≤ (ji16)) = true := decide_eq_true c17
                          clear c17
                          by_cases c18 : (ji16) < (l0.length : Int)
                          · rw [if_pos c18] at H
                            have c18b0 : decide ((ji16) < (l0.length : Int)) = true := decide_eq_true c18
                            clear c18
                            have H' := Aside0.mk H
                            clear H
                            have hcz19_0 : w7.cell? ⟨gb182, 0, none⟩ = some (.string (⟨#[]⟩ : ByteArray)) := (blk_cell BK182.out 0).trans rfl
                            have hcz19_1 : w7.cell? ⟨gb182, 1, none⟩ = some (.int .i64 0) := (blk_cell BK182.out 1).trans rfl
                            have hcz19_2 : w7.cell? ⟨gb182, 2, none⟩ = some (.slice none 0 0) := (blk_cell BK182.out 2).trans rfl
                            have hfz19_0 := blk_frozen BK182.out 0
                            have hfz19_1 := blk_frozen BK182.out 1
                            have hfz19_2 := blk_frozen BK182.out 2
                            go_wp2_with (first | (go_at_call 73; (with_reducible refine (impl_IsName.calls k1 ((rd_T38 l0 x13_1).f0) true _ A9.out).mono ?_); rintro e w' ⟨rfl, ⟨nd, rfl⟩⟩; (try first | exact ⟨rfl, _, World.drewN_drewN _ _ _⟩ | exact ⟨rfl, _, Eq.trans (World.drewN_drewN _ _ _) (congrArg (World.drewN _) (Nat.add_assoc _ _ _))⟩)) | (go_at_call 74; (with_reducible refine (impl_within.calls ((rd_T38 l0 x13_1).f1) 0 3000 true _ A11.out).mono ?_); rintro e w' ⟨rfl, ⟨nd, rfl⟩⟩; (try first | exact ⟨rfl, _, World.drewN_drewN _ _ _⟩ | exact ⟨rfl, _, Eq.trans (World.drewN_drewN _ _ _) (congrArg (World.drewN _) (Nat.add_assoc _ _ _))⟩); have p185 : 0 ≤ ((ji16) : Int) := of_decide_eq_true (by first | (with_reducible assumption) | assumption); have q185 : (ji16) < (l0.length : Int) := of_decide_eq_true (by first | (with_reducible assumption) | assumption); obtain ⟨ad185, A185_2, c185_2, e185, hx185_0, hx185_1, hx185_2, hl185_2, hi185_2⟩ := at_T38 HR0.out (ji16) p185 q185; obtain rfl : ad181 = ad185 := (by injection e185); have hn185_0 : ad181.block ≠ gb182 := Nat.ne_of_lt (Nat.lt_of_lt_of_le (by have := World.block_lt_of_cell? _ _ hx185_0; first | rwa [add_block] at this | exact this) GW182.out); have hn185_1 : ad181.block ≠ gb182 := Nat.ne_of_lt (Nat.lt_of_lt_of_le (by have := World.block_lt_of_cell? _ _ hx185_0; first | rwa [add_block] at this | exact this) GW182.out); have hn185_2 : ad181.block ≠ gb182 := Nat.ne_of_lt (Nat.lt_of_lt_of_le (by have := World.block_lt_of_cell? _ _ hx185_0; first | rwa [add_block] at this | exact this) GW182.out); replace hx185_0 := (HB.out.cell (World.block_lt_of_cell? w _ hx185_0)).trans hx185_0; replace hx185_1 := (HB.out.cell (World.block_lt_of_cell? w _ hx185_1)).trans hx185_1; replace hx185_2 := (HB.out.cell (World.block_lt_of_cell? w _ hx185_2)).trans hx185_2; have HR185_2 := Aside0.mk hi185_2; have HC185_2 := Aside0.mk hl185_2; clear hi185_2 hl185_2; replace hx185_0 := (cell_far (p := ⟨gb182, 0, none⟩) (by first | (rw [add_block]; exact hn185_0) | (show (Addr.add _ _).block ≠ _; rw [add_block]; exact hn185_0) | exact hn185_0) (.string ((rd_T38 l0 x13_1).f0))).trans hx185_0; replace hx185_1 := (cell_far (p := ⟨gb182, 0, none⟩) (by first | (rw [add_block]; exact hn185_0) | (show (Addr.add _ _).block ≠ _; rw [add_block]; exact hn185_0) | exact hn185_0) (.string ((rd_T38 l0 x13_1).f0))).trans hx185_1; replace hx185_2 := (cell_far (p := ⟨gb182, 0, none⟩) (by first | (rw [add_block]; exact hn185_0) | (show (Addr.add _ _).block ≠ _; rw [add_block]; exact hn185_0) | exact hn185_0) (.string ((rd_T38 l0 x13_1).f0))).trans hx185_2; replace hx185_0 := (cell_far (p := ⟨gb182, 1, none⟩) (by first | (rw [add_block]; exact hn185_1) | (show (Addr.add _ _).block ≠ _; rw [add_block]; exact hn185_1) | exact hn185_1) (.int .i64 ((rd_T38 l0 x13_1).f1))).trans hx185_0; replace hx185_1 := (cell_far (p := ⟨gb182, 1, none⟩) (by first | (rw [add_block]; exact hn185_1) | (show (Addr.add _ _).block ≠ _; rw [add_block]; exact hn185_1) | exact hn185_1) (.int .i64 ((rd_T38 l0 x13_1).f1))).trans hx185_1; replace hx185_2 := (cell_far (p := ⟨gb182, 1, none⟩) (by first | (rw [add_block]; exact hn185_1) | (show (Addr.add _ _).block ≠ _; rw [add_block]; exact hn185_1) | exact hn185_1) (.int .i64 ((rd_T38 l0 x13_1).f1))).trans hx185_2; replace hx185_0 := (cell_far (p := ⟨gb182, 2, none⟩) (by first | (rw [add_block]; exact hn185_2) | (show (Addr.add _ _).block ≠ _; rw [add_block]; exact hn185_2) | exact hn185_2) (.slice A181_2 ((rd_T38 l0 x13_1).f2).length c181_2)).trans hx185_0; replace hx185_1 := (cell_far (p := ⟨gb182, 2, none⟩) (by first | (rw [add_block]; exact hn185_2) | (show (Addr.add _ _).block ≠ _; rw [add_block]; exact hn185_2) | exact hn185_2) (.slice A181_2 ((rd_T38 l0 x13_1).f2).length c181_2)).trans hx185_1; replace hx185_2 := (cell_far (p := ⟨gb182, 2, none⟩) (by first | (rw [add_block]; exact hn185_2) | (show (Addr.add _ _).block ≠ _; rw [add_block]; exact hn185_2) | exact hn185_2) (.slice A181_2 ((rd_T38 l0 x13_1).f2).length c181_2)).trans hx185_2; (try have hy185_0 := fun (n_ : Nat) => (show (((((w7.drewN n_).setCell ⟨gb182, 0, none⟩ (.string ((rd_T38 l0 x13_1).f0))).setCell ⟨gb182, 1, none⟩ (.int .i64 ((rd_T38 l0 x13_1).f1))).setCell ⟨gb182, 2, none⟩ (.slice A181_2 ((rd_T38 l0 x13_1).f2).length c181_2))).cell? _ = some _ from hx185_0)); (try have hy185_1 := fun (n_ : Nat) => (show (((((w7.drewN n_).setCell ⟨gb182, 0, none⟩ (.string ((rd_T38 l0 x13_1).f0))).setCell ⟨gb182, 1, none⟩ (.int .i64 ((rd_T38 l0 x13_1).f1))).setCell ⟨gb182, 2, none⟩ (.slice A181_2 ((rd_T38 l0 x13_1).f2).length c181_2))).cell? _ = some _ from hx185_1)); (try have hy185_2 := fun (n_ : Nat) => (show (((((w7.drewN n_).setCell ⟨gb182, 0, none⟩ (.string ((rd_T38 l0 x13_1).f0))).setCell ⟨gb182, 1, none⟩ (.int .i64 ((rd_T38 l0 x13_1).f1))).setCell ⟨gb182, 2, none⟩ (.slice A181_2 ((rd_T38 l0 x13_1).f2).length c181_2))).cell? _ = some _ from hx185_2)); clear hn185_0; clear hn185_1; clear hn185_2; replace p185 := eq_true p185; replace q185 := eq_true q185))
                            repeat (go_quiet (first | (go_at_call 73; (with_reducible refine (impl_IsName.calls k1 ((rd_T38 l0 x13_1).f0) true _ A9.out).mono ?_); rintro e w' ⟨rfl, ⟨nd, rfl⟩⟩; (try first | exact ⟨rfl, _, World.drewN_drewN _ _ _⟩ | exact ⟨rfl, _, Eq.trans (World.drewN_drewN _ _ _) (congrArg (World.drewN _) (Nat.add_assoc _ _ _))⟩)) | (go_at_call 74; (with_reducible refine (impl_within.calls ((rd_T38 l0 x13_1).f1) 0 3000 true _ A11.out).mono ?_); rintro e w' ⟨rfl, ⟨nd, rfl⟩⟩; (try first | exact ⟨rfl, _, World.drewN_drewN _ _ _⟩ | exact ⟨rfl, _, Eq.trans (World.drewN_drewN _ _ _) (congrArg (World.drewN _) (Nat.add_assoc _ _ _))⟩); have p185 : 0 ≤ ((ji16) : Int) := of_decide_eq_true (by first | (with_reducible assumption) | assumption); have q185 : (ji16) < (l0.length : Int) := of_decide_eq_true (by first | (with_reducible assumption) | assumption); obtain ⟨ad185, A185_2, c185_2, e185, hx185_0, hx185_1, hx185_2, hl185_2, hi185_2⟩ := at_T38 HR0.out (ji16) p185 q185; obtain rfl : ad181 = ad185 := (by injection e185); have hn185_0 : ad181.block ≠ gb182 := Nat.ne_of_lt (Nat.lt_of_lt_of_le (by have := World.block_lt_of_cell? _ _ hx185_0; first | rwa [add_block] at this | exact this) GW182.out); have hn185_1 : ad181.block ≠ gb182 := Nat.ne_of_lt (Nat.lt_of_lt_of_le (by have := World.block_lt_of_cell? _ _ hx185_0; first | rwa [add_block] at this | exact this) GW182.out); have hn185_2 : ad181.block ≠ gb182 := Nat.ne_of_lt (Nat.lt_of_lt_of_le (by have := World.block_lt_of_cell? _ _ hx185_0; first | rwa [add_block] at this | exact this) GW182.out); replace hx185_0 := (HB.out.cell (World.block_lt_of_cell? w _ hx185_0)).trans hx185_0; replace hx185_1 := (HB.out.cell (World.block_lt_of_cell? w _ hx185_1)).trans hx185_1; replace hx185_2 := (HB.out.cell (World.block_lt_of_cell? w _ hx185_2)).trans hx185_2; have HR185_2 := Aside0.mk hi185_2; have HC185_2 := Aside0.mk hl185_2; clear hi185_2 hl185_2; replace hx185_0 := (cell_far (p := ⟨gb182, 0, none⟩) (by first | (rw [add_block]; exact hn185_0) | (show (Addr.add _ _).block ≠ _; rw [add_block]; exact hn185_0) | exact hn185_0) (.string ((rd_T38 l0 x13_1).f0))).trans hx185_0; replace hx185_1 := (cell_far (p := ⟨gb182, 0, none⟩) (by first | (rw [add_block]; exact hn185_0) | (show (Addr.add _ _).block ≠ _; rw [add_block]; exact hn185_0) | exact hn185_0) (.string ((rd_T38 l0 x13_1).f0))).trans hx185_1; replace hx185_2 := (cell_far (p := ⟨gb182, 0, none⟩) (by first | (rw [add_block]; exact hn185_0) | (show (Addr.add _ _).block ≠ _; rw [add_block]; exact hn185_0) | exact hn185_0) (.string ((rd_T38 l0 x13_1).f0))).trans hx185_2; replace hx185_0 := (cell_far (p := ⟨gb182, 1, none⟩) (by first | (rw [add_block]; exact hn185_1) | (show (Addr.add _ _).block ≠ _; rw [add_block]; exact hn185_1) | exact hn185_1) (.int .i64 ((rd_T38 l0 x13_1).f1))).trans hx185_0; replace hx185_1 := (cell_far (p := ⟨gb182, 1, none⟩) (by first | (rw [add_block]; exact hn185_1) | (show (Addr.add _ _).block ≠ _; rw [add_block]; exact hn185_1) | exact hn185_1) (.int .i64 ((rd_T38 l0 x13_1).f1))).trans hx185_1; replace hx185_2 := (cell_far (p := ⟨gb182, 1, none⟩) (by first | (rw [add_block]; exact hn185_1) | (show (Addr.add _ _).block ≠ _; rw [add_block]; exact hn185_1) | exact hn185_1) (.int .i64 ((rd_T38 l0 x13_1).f1))).trans hx185_2; replace hx185_0 := (cell_far (p := ⟨gb182, 2, none⟩) (by first | (rw [add_block]; exact hn185_2) | (show (Addr.add _ _).block ≠ _; rw [add_block]; exact hn185_2) | exact hn185_2) (.slice A181_2 ((rd_T38 l0 x13_1).f2).length c181_2)).trans hx185_0; replace hx185_1 := (cell_far (p := ⟨gb182, 2, none⟩) (by first | (rw [add_block]; exact hn185_2) | (show (Addr.add _ _).block ≠ _; rw [add_block]; exact hn185_2) | exact hn185_2) (.slice A181_2 ((rd_T38 l0 x13_1).f2).length c181_2)).trans hx185_1; replace hx185_2 := (cell_far (p := ⟨gb182, 2, none⟩) (by first | (rw [add_block]; exact hn185_2) | (show (Addr.add _ _).block ≠ _; rw [add_block]; exact hn185_2) | exact hn185_2) (.slice A181_2 ((rd_T38 l0 x13_1).f2).length c181_2)).trans hx185_2; (try have hy185_0 := fun (n_ : Nat) => (show (((((w7.drewN n_).setCell ⟨gb182, 0, none⟩ (.string ((rd_T38 l0 x13_1).f0))).setCell ⟨gb182, 1, none⟩ (.int .i64 ((rd_T38 l0 x13_1).f1))).setCell ⟨gb182, 2, none⟩ (.slice A181_2 ((rd_T38 l0 x13_1).f2).length c181_2))).cell? _ = some _ from hx185_0)); (try have hy185_1 := fun (n_ : Nat) => (show (((((w7.drewN n_).setCell ⟨gb182, 0, none⟩ (.string ((rd_T38 l0 x13_1).f0))).setCell ⟨gb182, 1, none⟩ (.int .i64 ((rd_T38 l0 x13_1).f1))).setCell ⟨gb182, 2, none⟩ (.slice A181_2 ((rd_T38 l0 x13_1).f2).length c181_2))).cell? _ = some _ from hx185_1)); (try have hy185_2 := fun (n_ : Nat) => (show (((((w7.drewN n_).setCell ⟨gb182, 0, none⟩ (.string ((rd_T38 l0 x13_1).f0))).setCell ⟨gb182, 1, none⟩ (.int .i64 ((rd_T38 l0 x13_1).f1))).setCell ⟨gb182, 2, none⟩ (.slice A181_2 ((rd_T38 l0 x13_1).f2).length c181_2))).cell? _ = some _ from hx185_2)); clear hn185_0; clear hn185_1; clear hn185_2; replace p185 := eq_true p185; replace q185 := eq_true q185)); try go_wp2_with (first | (go_at_call 73; (with_reducible refine (impl_IsName.calls k1 ((rd_T38 l0 x13_1).f0) true _ A9.out).mono ?_); rintro e w' ⟨rfl, ⟨nd, rfl⟩⟩; (try first | exact ⟨rfl, _, World.drewN_drewN _ _ _⟩ | exact ⟨rfl, _, Eq.trans (World.drewN_drewN _ _ _) (congrArg (World.drewN _) (Nat.add_assoc _ _ _))⟩)) | (go_at_call 74; (with_reducible refine (impl_within.calls ((rd_T38 l0 x13_1).f1) 0 3000 true _ A11.out).mono ?_); rintro e w' ⟨rfl, ⟨nd, rfl⟩⟩; (try first | exact ⟨rfl, _, World.drewN_drewN _ _ _⟩ | exact ⟨rfl, _, Eq.trans (World.drewN_drewN _ _ _) (congrArg (World.drewN _) (Nat.add_assoc _ _ _))⟩); have p185 : 0 ≤ ((ji16) : Int) := of_decide_eq_true (by first | (with_reducible assumption) | assumption); have q185 : (ji16) < (l0.length : Int) := of_decide_eq_true (by first | (with_reducible assumption) | assumption); obtain ⟨ad185, A185_2, c185_2, e185, hx185_0, hx185_1, hx185_2, hl185_2, hi185_2⟩ := at_T38 HR0.out (ji16) p185 q185; obtain rfl : ad181 = ad185 := (by injection e185); have hn185_0 : ad181.block ≠ gb182 := Nat.ne_of_lt (Nat.lt_of_lt_of_le (by have := World.block_lt_of_cell? _ _ hx185_0; first | rwa [add_block] at this | exact this) GW182.out); have hn185_1 : ad181.block ≠ gb182 := Nat.ne_of_lt (Nat.lt_of_lt_of_le (by have := World.block_lt_of_cell? _ _ hx185_0; first | rwa [add_block] at this | exact this) GW182.out); have hn185_2 : ad181.block ≠ gb182 := Nat.ne_of_lt (Nat.lt_of_lt_of_le (by have := World.block_lt_of_cell? _ _ hx185_0; first | rwa [add_block] at this | exact this) GW182.out); replace hx185_0 := (HB.out.cell (World.block_lt_of_cell? w _ hx185_0)).trans hx185_0; replace hx185_1 := (HB.out.cell (World.block_lt_of_cell? w _ hx185_1)).trans hx185_1; replace hx185_2 := (HB.out.cell (World.block_lt_of_cell? w _ hx185_2)).trans hx185_2; have HR185_2 := Aside0.mk hi185_2; have HC185_2 := Aside0.mk hl185_2; clear hi185_2 hl185_2; replace hx185_0 := (cell_far (p := ⟨gb182, 0, none⟩) (by first | (rw [add_block]; exact hn185_0) | (show (Addr.add _ _).block ≠ _; rw [add_block]; exact hn185_0) | exact hn185_0) (.string ((rd_T38 l0 x13_1).f0))).trans hx185_0; replace hx185_1 := (cell_far (p := ⟨gb182, 0, none⟩) (by first | (rw [add_block]; exact hn185_0) | (show (Addr.add _ _).block ≠ _; rw [add_block]; exact hn185_0) | exact hn185_0) (.string ((rd_T38 l0 x13_1).f0))).trans hx185_1; replace hx185_2 := (cell_far (p := ⟨gb182, 0, none⟩) (by first | (rw [add_block]; exact hn185_0) | (show (Addr.add _ _).block ≠ _; rw [add_block]; exact hn185_0) | exact hn185_0) (.string ((rd_T38 l0 x13_1).f0))).trans hx185_2; replace hx185_0 := (cell_far (p := ⟨gb182, 1, none⟩) (by first | (rw [add_block]; exact hn185_1) | (show (Addr.add _ _).block ≠ _; rw [add_block]; exact hn185_1) | exact hn185_1) (.int .i64 ((rd_T38 l0 x13_1).f1))).trans hx185_0; replace hx185_1 := (cell_far (p := ⟨gb182, 1, none⟩) (by first | (rw [add_block]; exact hn185_1) | (show (Addr.add _ _).block ≠ _; rw [add_block]; exact hn185_1) | exact hn185_1) (.int .i64 ((rd_T38 l0 x13_1).f1))).trans hx185_1; replace hx185_2 := (cell_far (p := ⟨gb182, 1, none⟩) (by first | (rw [add_block]; exact hn185_1) | (show (Addr.add _ _).block ≠ _; rw [add_block]; exact hn185_1) | exact hn185_1) (.int .i64 ((rd_T38 l0 x13_1).f1))).trans hx185_2; replace hx185_0 := (cell_far (p := ⟨gb182, 2, none⟩) (by first | (rw [add_block]; exact hn185_2) | (show (Addr.add _ _).block ≠ _; rw [add_block]; exact hn185_2) | exact hn185_2) (.slice A181_2 ((rd_T38 l0 x13_1).f2).length c181_2)).trans hx185_0; replace hx185_1 := (cell_far (p := ⟨gb182, 2, none⟩) (by first | (rw [add_block]; exact hn185_2) | (show (Addr.add _ _).block ≠ _; rw [add_block]; exact hn185_2) | exact hn185_2) (.slice A181_2 ((rd_T38 l0 x13_1).f2).length c181_2)).trans hx185_1; replace hx185_2 := (cell_far (p := ⟨gb182, 2, none⟩) (by first | (rw [add_block]; exact hn185_2) | (show (Addr.add _ _).block ≠ _; rw [add_block]; exact hn185_2) | exact hn185_2) (.slice A181_2 ((rd_T38 l0 x13_1).f2).length c181_2)).trans hx185_2; (try have hy185_0 := fun (n_ : Nat) => (show (((((w7.drewN n_).setCell ⟨gb182, 0, none⟩ (.string ((rd_T38 l0 x13_1).f0))).setCell ⟨gb182, 1, none⟩ (.int .i64 ((rd_T38 l0 x13_1).f1))).setCell ⟨gb182, 2, none⟩ (.slice A181_2 ((rd_T38 l0 x13_1).f2).length c181_2))).cell? _ = some _ from hx185_0)); (try have hy185_1 := fun (n_ : Nat) => (show (((((w7.drewN n_).setCell ⟨gb182, 0, none⟩ (.string ((rd_T38 l0 x13_1).f0))).setCell ⟨gb182, 1, none⟩ (.int .i64 ((rd_T38 l0 x13_1).f1))).setCell ⟨gb182, 2, none⟩ (.slice A181_2 ((rd_T38 l0 x13_1).f2).length c181_2))).cell? _ = some _ from hx185_1)); (try have hy185_2 := fun (n_ : Nat) => (show (((((w7.drewN n_).setCell ⟨gb182, 0, none⟩ (.string ((rd_T38 l0 x13_1).f0))).setCell ⟨gb182, 1, none⟩ (.int .i64 ((rd_T38 l0 x13_1).f1))).setCell ⟨gb182, 2, none⟩ (.slice A181_2 ((rd_T38 l0 x13_1).f2).length c181_2))).cell? _ = some _ from hx185_2)); clear hn185_0; clear hn185_1; clear hn185_2; replace p185 := eq_true p185; replace q185 := eq_true q185)))
                            go_meet
                            case rel => exact ⟨_, (!(Op.bytesLess (((rd_T38 l0 (ji16)).f0).toList) (((rd_T38 l0 x13_1).f0).toList))), (by first | rfl | (simp; done) | (simp only [← hji16] <;> (first | rfl | simp)) | (simp [*]; done)), H', ⟨by have := HK1.out; first | omega | exact Nat.le_refl _⟩, ⟨by (with_reducible repeat (first | refine blk_drewN ?_ _ | refine blk_drew ?_ | refine blk_alloc ?_ _)); refine blk_put (cs := #[.string ((rd_T38 l0 x13_1).f0), .int .i64 ((rd_T38 l0 x13_1).f1), .slice none 0 0]) ?_ 2 _ rfl; (with_reducible repeat (first | refine blk_drewN ?_ _ | refine blk_drew ?_ | refine blk_alloc ?_ _)); refine blk_put (cs := #[.string ((rd_T38 l0 x13_1).f0), .int .i64 0, .slice none 0 0]) ?_ 1 _ rfl; (with_reducible repeat (first | refine blk_drewN ?_ _ | refine blk_drew ?_ | refine blk_alloc ?_ _)); refine blk_put (cs := #[.string (⟨#[]⟩ : ByteArray), .int .i64 0, .slice none 0 0]) ?_ 0 _ rfl; (with_reducible repeat (first | refine blk_drewN ?_ _ | refine blk_drew ?_ | refine blk_alloc ?_ _)); exact BK182.out⟩, ⟨by repeat (first | (with_reducible first | exact HB.out | apply below_alloc | apply pw_below_drewN | apply below_drew1 | refine below_set ?_ GE182.out) | exact HB.out)⟩⟩
                          · rw [if_neg c18] at H
                            exact absurd H (by simp)
                        · rw [if_neg c17] at H
                          exact absurd H (by simp)
                      · rw [if_neg c15] at H
                        have c15b0 : decide (0 < x13_1) = false := decide_eq_false c15
                        clear c15
                        have H' := Aside0.mk H
                        clear H
                        have hcz20_0 : w7.cell? ⟨gb182, 0, none⟩ = some (.string (⟨#[]⟩ : ByteArray)) := (blk_cell BK182.out 0).trans rfl
                        have hcz20_1 : w7.cell? ⟨gb182, 1, none⟩ = some (.int .i64 0) := (blk_cell BK182.out 1).trans rfl
                        have hcz20_2 : w7.cell? ⟨gb182, 2, none⟩ = some (.slice none 0 0) := (blk_cell BK182.out 2).trans rfl
                        have hfz20_0 := blk_frozen BK182.out 0
                        have hfz20_1 := blk_frozen BK182.out 1
                        have hfz20_2 := blk_frozen BK182.out 2
                        go_wp2_with (first | (go_at_call 73; (with_reducible refine (impl_IsName.calls k1 ((rd_T38 l0 x13_1).f0) true _ A9.out).mono ?_); rintro e w' ⟨rfl, ⟨nd, rfl⟩⟩; (try first | exact ⟨rfl, _, World.drewN_drewN _ _ _⟩ | exact ⟨rfl, _, Eq.trans (World.drewN_drewN _ _ _) (congrArg (World.drewN _) (Nat.add_assoc _ _ _))⟩)) | (go_at_call 74; (with_reducible refine (impl_within.calls ((rd_T38 l0 x13_1).f1) 0 3000 true _ A11.out).mono ?_); rintro e w' ⟨rfl, ⟨nd, rfl⟩⟩; (try first | exact ⟨rfl, _, World.drewN_drewN _ _ _⟩ | exact ⟨rfl, _, Eq.trans (World.drewN_drewN _ _ _) (congrArg (World.drewN _) (Nat.add_assoc _ _ _))⟩)))
                        repeat (go_quiet (first | (go_at_call 73; (with_reducible refine (impl_IsName.calls k1 ((rd_T38 l0 x13_1).f0) true _ A9.out).mono ?_); rintro e w' ⟨rfl, ⟨nd, rfl⟩⟩; (try first | exact ⟨rfl, _, World.drewN_drewN _ _ _⟩ | exact ⟨rfl, _, Eq.trans (World.drewN_drewN _ _ _) (congrArg (World.drewN _) (Nat.add_assoc _ _ _))⟩)) | (go_at_call 74; (with_reducible refine (impl_within.calls ((rd_T38 l0 x13_1).f1) 0 3000 true _ A11.out).mono ?_); rintro e w' ⟨rfl, ⟨nd, rfl⟩⟩; (try first | exact ⟨rfl, _, World.drewN_drewN _ _ _⟩ | exact ⟨rfl, _, Eq.trans (World.drewN_drewN _ _ _) (congrArg (World.drewN _) (Nat.add_assoc _ _ _))⟩))); try go_wp2_with (first | (go_at_call 73; (with_reducible refine (impl_IsName.calls k1 ((rd_T38 l0 x13_1).f0) true _ A9.out).mono ?_); rintro e w' ⟨rfl, ⟨nd, rfl⟩⟩; (try first | exact ⟨rfl, _, World.drewN_drewN _ _ _⟩ | exact ⟨rfl, _, Eq.trans (World.drewN_drewN _ _ _) (congrArg (World.drewN _) (Nat.add_assoc _ _ _))⟩)) | (go_at_call 74; (with_reducible refine (impl_within.calls ((rd_T38 l0 x13_1).f1) 0 3000 true _ A11.out).mono ?_); rintro e w' ⟨rfl, ⟨nd, rfl⟩⟩; (try first | exact ⟨rfl, _, World.drewN_drewN _ _ _⟩ | exact ⟨rfl, _, Eq.trans (World.drewN_drewN _ _ _) (congrArg (World.drewN _) (Nat.add_assoc _ _ _))⟩))))
                        go_meet
                        case rel => exact ⟨_, (false), (by first | rfl | (simp; done) | (simp [*]; done)), H', ⟨by have := HK1.out; first | omega | exact Nat.le_refl _⟩, ⟨by (with_reducible repeat (first | refine blk_drewN ?_ _ | refine blk_drew ?_ | refine blk_alloc ?_ _)); refine blk_put (cs := #[.string ((rd_T38 l0 x13_1).f0), .int .i64 ((rd_T38 l0 x13_1).f1), .slice none 0 0]) ?_ 2 _ rfl; (with_reducible repeat (first | refine blk_drewN ?_ _ | refine blk_drew ?_ | refine blk_alloc ?_ _)); refine blk_put (cs := #[.string ((rd_T38 l0 x13_1).f0), .int .i64 0, .slice none 0 0]) ?_ 1 _ rfl; (with_reducible repeat (first | refine blk_drewN ?_ _ | refine blk_drew ?_ | refine blk_alloc ?_ _)); refine blk_put (cs := #[.string (⟨#[]⟩ : ByteArray), .int .i64 0, .slice none 0 0]) ?_ 0 _ rfl; (with_reducible repeat (first | refine blk_drewN ?_ _ | refine blk_drew ?_ | refine blk_alloc ?_ _)); exact BK182.out⟩, ⟨by repeat (first | (with_reducible first | exact HB.out | apply below_alloc | apply pw_below_drewN | apply below_drew1 | refine below_set ?_ GE182.out) | exact HB.out)⟩⟩
                  · replace c12 := Bool.eq_false_iff.mpr c12
                    subst c12
                    have H1 : (impl_ValidPersons.j1 k1 l0 l0 (l0.length : Int) x13_1 true ((rd_T38 l0 x13_1).f0) ((rd_T38 l0 x13_1).f1) ((rd_T38 l0 x13_1).f2)) = some r := by rw [if_neg (show ¬ (false = true) by decide)] at H; exact H
                    clear H
                    have H := H1
                    clear H1
                    have H' := Aside0.mk H
                    clear H
                    have hcz21_0 : w7.cell? ⟨gb182, 0, none⟩ = some (.string (⟨#[]⟩ : ByteArray)) := (blk_cell BK182.out 0).trans rfl
                    have hcz21_1 : w7.cell? ⟨gb182, 1, none⟩ = some (.int .i64 0) := (blk_cell BK182.out 1).trans rfl
                    have hcz21_2 : w7.cell? ⟨gb182, 2, none⟩ = some (.slice none 0 0) := (blk_cell BK182.out 2).trans rfl
                    have hfz21_0 := blk_frozen BK182.out 0
                    have hfz21_1 := blk_frozen BK182.out 1
                    have hfz21_2 := blk_frozen BK182.out 2
                    go_wp2_with (first | (go_at_call 73; (with_reducible refine (impl_IsName.calls k1 ((rd_T38 l0 x13_1).f0) true _ A9.out).mono ?_); rintro e w' ⟨rfl, ⟨nd, rfl⟩⟩; (try first | exact ⟨rfl, _, World.drewN_drewN _ _ _⟩ | exact ⟨rfl, _, Eq.trans (World.drewN_drewN _ _ _) (congrArg (World.drewN _) (Nat.add_assoc _ _ _))⟩)) | (go_at_call 74; (with_reducible refine (impl_within.calls ((rd_T38 l0 x13_1).f1) 0 3000 false _ A11.out).mono ?_); rintro e w' ⟨rfl, ⟨nd, rfl⟩⟩; (try first | exact ⟨rfl, _, World.drewN_drewN _ _ _⟩ | exact ⟨rfl, _, Eq.trans (World.drewN_drewN _ _ _) (congrArg (World.drewN _) (Nat.add_assoc _ _ _))⟩)))
                    repeat (go_quiet (first | (go_at_call 73; (with_reducible refine (impl_IsName.calls k1 ((rd_T38 l0 x13_1).f0) true _ A9.out).mono ?_); rintro e w' ⟨rfl, ⟨nd, rfl⟩⟩; (try first | exact ⟨rfl, _, World.drewN_drewN _ _ _⟩ | exact ⟨rfl, _, Eq.trans (World.drewN_drewN _ _ _) (congrArg (World.drewN _) (Nat.add_assoc _ _ _))⟩)) | (go_at_call 74; (with_reducible refine (impl_within.calls ((rd_T38 l0 x13_1).f1) 0 3000 false _ A11.out).mono ?_); rintro e w' ⟨rfl, ⟨nd, rfl⟩⟩; (try first | exact ⟨rfl, _, World.drewN_drewN _ _ _⟩ | exact ⟨rfl, _, Eq.trans (World.drewN_drewN _ _ _) (congrArg (World.drewN _) (Nat.add_assoc _ _ _))⟩))); try go_wp2_with (first | (go_at_call 73; (with_reducible refine (impl_IsName.calls k1 ((rd_T38 l0 x13_1).f0) true _ A9.out).mono ?_); rintro e w' ⟨rfl, ⟨nd, rfl⟩⟩; (try first | exact ⟨rfl, _, World.drewN_drewN _ _ _⟩ | exact ⟨rfl, _, Eq.trans (World.drewN_drewN _ _ _) (congrArg (World.drewN _) (Nat.add_assoc _ _ _))⟩)) | (go_at_call 74; (with_reducible refine (impl_within.calls ((rd_T38 l0 x13_1).f1) 0 3000 false _ A11.out).mono ?_); rintro e w' ⟨rfl, ⟨nd, rfl⟩⟩; (try first | exact ⟨rfl, _, World.drewN_drewN _ _ _⟩ | exact ⟨rfl, _, Eq.trans (World.drewN_drewN _ _ _) (congrArg (World.drewN _) (Nat.add_assoc _ _ _))⟩))))
                    go_meet
                    case rel => exact ⟨_, (true), (by first | rfl | (simp; done) | (simp [*]; done)), H', ⟨by have := HK1.out; first | omega | exact Nat.le_refl _⟩, ⟨by (with_reducible repeat (first | refine blk_drewN ?_ _ | refine blk_drew ?_ | refine blk_alloc ?_ _)); refine blk_put (cs := #[.string ((rd_T38 l0 x13_1).f0), .int .i64 ((rd_T38 l0 x13_1).f1), .slice none 0 0]) ?_ 2 _ rfl; (with_reducible repeat (first | refine blk_drewN ?_ _ | refine blk_drew ?_ | refine blk_alloc ?_ _)); refine blk_put (cs := #[.string ((rd_T38 l0 x13_1).f0), .int .i64 0, .slice none 0 0]) ?_ 1 _ rfl; (with_reducible repeat (first | refine blk_drewN ?_ _ | refine blk_drew ?_ | refine blk_alloc ?_ _)); refine blk_put (cs := #[.string (⟨#[]⟩ : ByteArray), .int .i64 0, .slice none 0 0]) ?_ 0 _ rfl; (with_reducible repeat (first | refine blk_drewN ?_ _ | refine blk_drew ?_ | refine blk_alloc ?_ _)); exact BK182.out⟩, ⟨by repeat (first | (with_reducible first | exact HB.out | apply below_alloc | apply pw_below_drewN | apply below_drew1 | refine below_set ?_ GE182.out) | exact HB.out)⟩⟩
                · replace c10 := Bool.eq_false_iff.mpr c10
                  subst c10
                  have H1 : (impl_ValidPersons.j1 k1 l0 l0 (l0.length : Int) x13_1 true ((rd_T38 l0 x13_1).f0) ((rd_T38 l0 x13_1).f1) ((rd_T38 l0 x13_1).f2)) = some r := by rw [if_neg (show ¬ (false = true) by decide)] at H; exact H
                  clear H
                  have H := H1
                  clear H1
                  have H' := Aside0.mk H
                  clear H
                  have hcz22_0 : w7.cell? ⟨gb182, 0, none⟩ = some (.string (⟨#[]⟩ : ByteArray)) := (blk_cell BK182.out 0).trans rfl
                  have hcz22_1 : w7.cell? ⟨gb182, 1, none⟩ = some (.int .i64 0) := (blk_cell BK182.out 1).trans rfl
                  have hcz22_2 : w7.cell? ⟨gb182, 2, none⟩ = some (.slice none 0 0) := (blk_cell BK182.out 2).trans rfl
                  have hfz22_0 := blk_frozen BK182.out 0
                  have hfz22_1 := blk_frozen BK182.out 1
                  have hfz22_2 := blk_frozen BK182.out 2
                  go_wp2_with (first | (go_at_call 73; (with_reducible refine (impl_IsName.calls k1 ((rd_T38 l0 x13_1).f0) false _ A9.out).mono ?_); rintro e w' ⟨rfl, ⟨nd, rfl⟩⟩; (try first | exact ⟨rfl, _, World.drewN_drewN _ _ _⟩ | exact ⟨rfl, _, Eq.trans (World.drewN_drewN _ _ _) (congrArg (World.drewN _) (Nat.add_assoc _ _ _))⟩)))
                  repeat (go_quiet (first | (go_at_call 73; (with_reducible refine (impl_IsName.calls k1 ((rd_T38 l0 x13_1).f0) false _ A9.out).mono ?_); rintro e w' ⟨rfl, ⟨nd, rfl⟩⟩; (try first | exact ⟨rfl, _, World.drewN_drewN _ _ _⟩ | exact ⟨rfl, _, Eq.trans (World.drewN_drewN _ _ _) (congrArg (World.drewN _) (Nat.add_assoc _ _ _))⟩))); try go_wp2_with (first | (go_at_call 73; (with_reducible refine (impl_IsName.calls k1 ((rd_T38 l0 x13_1).f0) false _ A9.out).mono ?_); rintro e w' ⟨rfl, ⟨nd, rfl⟩⟩; (try first | exact ⟨rfl, _, World.drewN_drewN _ _ _⟩ | exact ⟨rfl, _, Eq.trans (World.drewN_drewN _ _ _) (congrArg (World.drewN _) (Nat.add_assoc _ _ _))⟩))))
                  go_meet
                  case rel => exact ⟨_, (true), (by first | rfl | (simp; done) | (simp [*]; done)), H', ⟨by have := HK1.out; first | omega | exact Nat.le_refl _⟩, ⟨by (with_reducible repeat (first | refine blk_drewN ?_ _ | refine blk_drew ?_ | refine blk_alloc ?_ _)); refine blk_put (cs := #[.string ((rd_T38 l0 x13_1).f0), .int .i64 ((rd_T38 l0 x13_1).f1), .slice none 0 0]) ?_ 2 _ rfl; (with_reducible repeat (first | refine blk_drewN ?_ _ | refine blk_drew ?_ | refine blk_alloc ?_ _)); refine blk_put (cs := #[.string ((rd_T38 l0 x13_1).f0), .int .i64 0, .slice none 0 0]) ?_ 1 _ rfl; (with_reducible repeat (first | refine blk_drewN ?_ _ | refine blk_drew ?_ | refine blk_alloc ?_ _)); refine blk_put (cs := #[.string (⟨#[]⟩ : ByteArray), .int .i64 0, .slice none 0 0]) ?_ 0 _ rfl; (with_reducible repeat (first | refine blk_drewN ?_ _ | refine blk_drew ?_ | refine blk_alloc ?_ _)); exact BK182.out⟩, ⟨by repeat (first | (with_reducible first | exact HB.out | apply below_alloc | apply pw_below_drewN | apply below_drew1 | refine below_set ?_ GE182.out) | exact HB.out)⟩⟩
              case rest =>
                clear HC6
                try clear c1
                try clear p1
                try clear q1
                try clear hx1
                try clear c2
                try clear c2b0
                try clear c2b1
                try clear p2
                try clear c3
                try clear c3b0
                try clear c4
                try clear c4b0
                try clear c5
                try clear c5b0
                try clear p6
                try clear c10
                try clear c12
                try clear c13
                try clear c13b0
                try clear c13b1
                try clear c15
                try clear c15b0
                try clear c17
                try clear c17b0
                try clear c18
                try clear c18b0
                try clear p18
                try clear q18
                try clear hx18
                try clear hcz14_0
                try clear hcz14_1
                try clear hcz14_2
                try clear hcz19_0
                try clear hcz19_1
                try clear hcz19_2
                try clear hcz20_0
                try clear hcz20_1
                try clear hcz20_2
                try clear hcz21_0
                try clear hcz21_1
                try clear hcz21_2
                try clear hcz22_0
                try clear hcz22_1
                try clear hcz22_2
                try clear hcz8_0
                try clear hcz8_1
                try clear hcz8_2
                try clear hfz14_0
                try clear hfz14_1
                try clear hfz14_2
                try clear hfz19_0
                try clear hfz19_1
                try clear hfz19_2
                try clear hfz20_0
                try clear hfz20_1
                try clear hfz20_2
                try clear hfz21_0
                try clear hfz21_1
                try clear hfz21_2
                try clear hfz22_0
                try clear hfz22_1
                try clear hfz22_2
                try clear hfz8_0
                try clear hfz8_1
                try clear hfz8_2
                try clear hx181_0
                try clear hx181_1
                try clear hx181_2
                try clear hx185_0
                try clear hx185_1
                try clear hx185_2
                try clear p181
                try clear p185
                try clear p2
                try clear q181
                try clear q185
                obtain ⟨kq, x48_5, rfl, HA, HJ5, BK182, HB⟩ := hcut
                cases kq with
                | zero => exact absurd HA.out (by simp [impl_ValidPersons.j1])
                | succ kj5 =>
                  have H := HA.out
                  clear HA
                  simp only [impl_ValidPersons.j1] at H
                  by_cases c23 : x48_5 = true
                  · subst c23
                    have H1 : (some false) = some r := by rw [if_pos rfl] at H; exact H
                    clear H
                    have H := H1
                    clear H1
                    obtain rfl := Option.some.inj H
                    go_wp2
                    repeat (go_quiet (fail); try go_wp2)
                    go_ret
                    exact ⟨by first | rfl | (simp [errW_none, errW_some] <;> rfl) | (simp [*, errW_none, errW_some] <;> rfl), by repeat (first | (with_reducible first | exact HB.out | apply below_alloc | apply pw_below_drewN | apply below_drew1 | refine below_set ?_ GE182.out) | exact HB.out)⟩
                  · replace c23 := Bool.eq_false_iff.mpr c23
                    subst c23
                    have H1 : (impl_ValidPersons.l1 kj5 l0 l0 (l0.length : Int) x13_1 ((rd_T38 l0 x13_1).f2) (((rd_T38 l0 x13_1).f2).length : Int) 0 ((rd_T38 l0 x13_1).f0) ((rd_T38 l0 x13_1).f1) ((rd_T38 l0 x13_1).f2)) = some r := by rw [if_neg (show ¬ (false = true) by decide)] at H; exact H
                    clear H
                    have H := H1
                    clear H1
                    have H' := Aside0.mk H
                    clear H
                    have hcz24_0 : wc.cell? ⟨gb182, 0, none⟩ = some (.string ((rd_T38 l0 x13_1).f0)) := (blk_cell BK182.out 0).trans rfl
                    have hcz24_1 : wc.cell? ⟨gb182, 1, none⟩ = some (.int .i64 ((rd_T38 l0 x13_1).f1)) := (blk_cell BK182.out 1).trans rfl
                    have hcz24_2 : wc.cell? ⟨gb182, 2, none⟩ = some (.slice A181_2 ((rd_T38 l0 x13_1).f2).length c181_2) := (blk_cell BK182.out 2).trans rfl
                    have hfz24_0 := blk_frozen BK182.out 0
                    have hfz24_1 := blk_frozen BK182.out 1
                    have hfz24_2 := blk_frozen BK182.out 2
                    go_wp2
                    repeat (go_quiet (fail); try go_wp2)
                    go_loopg [52] kj5 (fun kq v52 w' => ∃ (x52_3 : Int), v52 = .int .i64 x52_3 ∧ Aside0 (impl_ValidPersons.l1 kq l0 l0 (l0.length : Int) x13_1 ((rd_T38 l0 x13_1).f2) (((rd_T38 l0 x13_1).f2).length : Int) x52_3 ((rd_T38 l0 x13_1).f0) ((rd_T38 l0 x13_1).f1) ((rd_T38 l0 x13_1).f2) = some r) ∧ Aside0 (kq ≤ kj5) ∧ Aside0 (w'.heap[gb182]? = some (.cells #[.string ((rd_T38 l0 x13_1).f0), .int .i64 ((rd_T38 l0 x13_1).f1), (.slice A181_2 ((rd_T38 l0 x13_1).f2).length c181_2)] 38 (0, 0))) ∧ Aside0 (Below w.heap.size w w'))
                    case atStart => exact ⟨(0), (by first | rfl | (simp; done) | (simp [*]; done)), H', ⟨Nat.le_refl _⟩, ⟨by (with_reducible repeat (first | refine blk_drewN ?_ _ | refine blk_drew ?_ | refine blk_alloc ?_ _)); exact BK182.out⟩, ⟨by repeat (first | (with_reducible first | exact HB.out | apply below_alloc | apply pw_below_drewN | apply below_drew1 | refine below_set ?_ GE182.out) | exact HB.out)⟩⟩
                    case round =>
                      clear H'
                      try clear c1
                      try clear p1
                      try clear q1
                      try clear hx1
                      try clear c2
                      try clear c2b0
                      try clear c2b1
                      try clear p2
                      try clear c3
                      try clear c3b0
                      try clear c4
                      try clear c4b0
                      try clear c5
                      try clear c5b0
                      try clear p6
                      try clear c10
                      try clear c12
                      try clear c13
                      try clear c13b0
                      try clear c13b1
                      try clear c15
                      try clear c15b0
                      try clear c17
                      try clear c17b0
                      try clear c18
                      try clear c18b0
                      try clear p18
                      try clear q18
                      try clear hx18
                      try clear c23
                      try clear hcz14_0
                      try clear hcz14_1
                      try clear hcz14_2
                      try clear hcz19_0
                      try clear hcz19_1
                      try clear hcz19_2
                      try clear hcz20_0
                      try clear hcz20_1
                      try clear hcz20_2
                      try clear hcz21_0
                      try clear hcz21_1
                      try clear hcz21_2
                      try clear hcz22_0
                      try clear hcz22_1
                      try clear hcz22_2
                      try clear hcz24_0
                      try clear hcz24_1
                      try clear hcz24_2
                      try clear hcz8_0
                      try clear hcz8_1
                      try clear hcz8_2
                      try clear hfz14_0
                      try clear hfz14_1
                      try clear hfz14_2
                      try clear hfz19_0
                      try clear hfz19_1
                      try clear hfz19_2
                      try clear hfz20_0
                      try clear hfz20_1
                      try clear hfz20_2
                      try clear hfz21_0
                      try clear hfz21_1
                      try clear hfz21_2
                      try clear hfz22_0
                      try clear hfz22_1
                      try clear hfz22_2
                      try clear hfz24_0
                      try clear hfz24_1
                      try clear hfz24_2
                      try clear hfz8_0
                      try clear hfz8_1
                      try clear hfz8_2
                      try clear hx181_0
                      try clear hx181_1
                      try clear hx181_2
                      try clear hx185_0
                      try clear hx185_1
                      try clear hx185_2
                      try clear p1
                      try clear p18
                      try clear p181
                      try clear p185
                      try clear p2
                      try clear p6
                      try clear q1
                      try clear q18
                      try clear q181
                      try clear q185
                      obtain ⟨x52_3, rfl, HA, HK3, BK182, HB⟩ := hrel
                      cases gk with
                      | zero => exact absurd HA.out (by simp [impl_ValidPersons.l1])
                      | succ k3 =>
                        have H := HA.out
                        clear HA
                        simp only [impl_ValidPersons.l1] at H
                        by_cases c25 : x52_3 < (((rd_T38 l0 x13_1).f2).length : Int)
                        · rw [if_pos c25] at H
                          have c25b0 : decide (x52_3 < (((rd_T38 l0 x13_1).f2).length : Int)) = true := decide_eq_true c25
                          clear c25
                          by_cases c26 : 0 ≤ x52_3
                          · rw [if_pos c26] at H
                            have c26b0 : decide (0 ≤ x52_3) = true := decide_eq_true c26
                            clear c26
                            by_cases c27 : x52_3 < (((rd_T38 l0 x13_1).f2).length : Int)
                            · rw [if_pos c27] at H
                              have c27b0 : decide (x52_3 < (((rd_T38 l0 x13_1).f2).length : Int)) = true := decide_eq_true c27
                              clear c27
                              replace H := Option.bind_eq_some_iff.mp H
                              obtain ⟨t187, A280, H⟩ := H
                              replace H : (if t187 < 0 then (some false) else (if 0 ≤ t187 then (if t187 < (l0.length : Int) then (if ((rd_T38 l0 t187).f1) ≥ ((rd_T38 l0 x13_1).f1) then (some false) else (if x52_3 > 0 then (if 0 ≤ (wrap64 (x52_3 - 1)) then (if (wrap64 (x52_3 - 1)) < (((rd_T38 l0 x13_1).f2).length : Int) then (if ((Op.bytesLess ((rdOf ByteArray.empty ((rd_T38 l0 x13_1).f2) (wrap64 (x52_3 - 1))).toList) ((rdOf ByteArray.empty ((rd_T38 l0 x13_1).f2) x52_3).toList)) = true) then (impl_ValidPersons.l1 k3 l0 l0 (l0.length : Int) x13_1 ((rd_T38 l0 x13_1).f2) (((rd_T38 l0 x13_1).f2).length : Int) (wrap64 (x52_3 + 1)) ((rd_T38 l0 x13_1).f0) ((rd_T38 l0 x13_1).f1) ((rd_T38 l0 x13_1).f2)) else (some false)) else (none)) else (none)) else (impl_ValidPersons.l1 k3 l0 l0 (l0.length : Int) x13_1 ((rd_T38 l0 x13_1).f2) (((rd_T38 l0 x13_1).f2).length : Int) (wrap64 (x52_3 + 1)) ((rd_T38 l0 x13_1).f0) ((rd_T38 l0 x13_1).f1) ((rd_T38 l0 x13_1).f2)))) else (none)) else (none))) = some r := H
                              have A28 := Aside0.mk A280
                              clear A280
                              by_cases c29 : t187 < 0
                              · rw [if_pos c29] at H
                                have c29b0 : decide (t187 < 0) = true := decide_eq_true c29
                                clear c29
                                obtain rfl := Option.some.inj H
                                have p186 : 0 ≤ (x52_3 : Int) := of_decide_eq_true (by first | (with_reducible assumption) | assumption)
                                have q186 : x52_3 < (((rd_T38 l0 x13_1).f2).length : Int) := of_decide_eq_true (by first | (with_reducible assumption) | assumption)
                                obtain ⟨ad186, e186, hx186_0⟩ := Kd.at_string HR181_2.out x52_3 p186 q186
                                cases e186
                                replace hx186_0 := (HB.out.cell (World.block_lt_of_cell? w _ hx186_0)).trans hx186_0
                                replace p186 := eq_true p186
                                replace q186 := eq_true q186
                                go_wp2_with (first | (go_at_call 38; (with_reducible refine (impl_personAt.calls k3 _ _ l0 (rdOf ByteArray.empty ((rd_T38 l0 x13_1).f2) x52_3) t187 _ ?side1 ?side2 A28.out).mono ?_); (case side1 => repeat (first | exact (Kd.C_below HR0.out HB.out) | (with_reducible refine Kd.C_alloc ?_ _) | (with_reducible refine Kd.C_drewN ?_ _) | (with_reducible refine Kd.C_drew ?_))); (case side2 => exact HC0.out); rintro e w30 ⟨rfl, hb⟩; have n0_ := Aside0.mk (blk_below (g := gb182) (o := .cells #[.string ((rd_T38 l0 x13_1).f0), .int .i64 ((rd_T38 l0 x13_1).f1), .slice (some ad186) ((rd_T38 l0 x13_1).f2).length c181_2] 38 (0, 0)) (by (with_reducible repeat (first | refine blk_drewN ?_ _ | refine blk_drew ?_ | refine blk_alloc ?_ _)); exact BK182.out) hb); have n1_ := Aside0.mk (below_step (by repeat (first | (with_reducible first | exact HB.out | apply below_alloc | apply pw_below_drewN | apply below_drew1 | refine below_set ?_ GE182.out) | exact HB.out)) hb); clear BK182; clear HB; have BK182 := n0_; have HB := n1_; clear n0_ n1_; (try clear hb); (try clear hb2); (try clear hk); (try clear hi)))
                                repeat (go_quiet (first | (go_at_call 38; (with_reducible refine (impl_personAt.calls k3 _ _ l0 (rdOf ByteArray.empty ((rd_T38 l0 x13_1).f2) x52_3) t187 _ ?side1 ?side2 A28.out).mono ?_); (case side1 => repeat (first | exact (Kd.C_below HR0.out HB.out) | (with_reducible refine Kd.C_alloc ?_ _) | (with_reducible refine Kd.C_drewN ?_ _) | (with_reducible refine Kd.C_drew ?_))); (case side2 => exact HC0.out); rintro e w30 ⟨rfl, hb⟩; have n0_ := Aside0.mk (blk_below (g := gb182) (o := .cells #[.string ((rd_T38 l0 x13_1).f0), .int .i64 ((rd_T38 l0 x13_1).f1), .slice (some ad186) ((rd_T38 l0 x13_1).f2).length c181_2] 38 (0, 0)) (by (with_reducible repeat (first | refine blk_drewN ?_ _ | refine blk_drew ?_ | refine blk_alloc ?_ _)); exact BK182.out) hb); have n1_ := Aside0.mk (below_step (by repeat (first | (with_reducible first | exact HB.out | apply below_alloc | apply pw_below_drewN | apply below_drew1 | refine below_set ?_ GE182.out) | exact HB.out)) hb); clear BK182; clear HB; have BK182 := n0_; have HB := n1_; clear n0_ n1_; (try clear hb); (try clear hb2); (try clear hk); (try clear hi))); try go_wp2_with (first | (go_at_call 38; (with_reducible refine (impl_personAt.calls k3 _ _ l0 (rdOf ByteArray.empty ((rd_T38 l0 x13_1).f2) x52_3) t187 _ ?side1 ?side2 A28.out).mono ?_); (case side1 => repeat (first | exact (Kd.C_below HR0.out HB.out) | (with_reducible refine Kd.C_alloc ?_ _) | (with_reducible refine Kd.C_drewN ?_ _) | (with_reducible refine Kd.C_drew ?_))); (case side2 => exact HC0.out); rintro e w30 ⟨rfl, hb⟩; have n0_ := Aside0.mk (blk_below (g := gb182) (o := .cells #[.string ((rd_T38 l0 x13_1).f0), .int .i64 ((rd_T38 l0 x13_1).f1), .slice (some ad186) ((rd_T38 l0 x13_1).f2).length c181_2] 38 (0, 0)) (by (with_reducible repeat (first | refine blk_drewN ?_ _ | refine blk_drew ?_ | refine blk_alloc ?_ _)); exact BK182.out) hb); have n1_ := Aside0.mk (below_step (by repeat (first | (with_reducible first | exact HB.out | apply below_alloc | apply pw_below_drewN | apply below_drew1 | refine below_set ?_ GE182.out) | exact HB.out)) hb); clear BK182; clear HB; have BK182 := n0_; have HB := n1_; clear n0_ n1_; (try clear hb); (try clear hb2); (try clear hk); (try clear hi))))
                                go_ret
                                exact ⟨by first | rfl | (simp [errW_none, errW_some] <;> rfl) | (simp [*, errW_none, errW_some] <;> rfl), by repeat (first | (with_reducible first | exact HB.out | apply below_alloc | apply pw_below_drewN | apply below_drew1 | refine below_set ?_ GE182.out) | exact HB.out)⟩
                              · rw [if_neg c29] at H
                                have c29b0 : decide (t187 < 0) = false := decide_eq_false c29
                                clear c29
                                by_cases c31 : 0 ≤ t187
                                · rw [if_pos c31] at H
                                  have c31b0 : decide (0 ≤ t187) = true := decide_eq_true c31
                                  clear c31
                                  by_cases c32 : t187 < (l0.length : Int)
                                  · rw [if_pos c32] at H
                                    have c32b0 : decide (t187 < (l0.length : Int)) = true := decide_eq_true c32
                                    clear c32
                                    by_cases c33 : ((rd_T38 l0 t187).f1) ≥ ((rd_T38 l0 x13_1).f1)
                                    · rw [if_pos c33] at H
                                      have c33b0 : decide (((rd_T38 l0 x13_1).f1) ≤ ((rd_T38 l0 t187).f1)) = true := decide_eq_true c33
                                      clear c33
                                      obtain rfl := Option.some.inj H
                                      have p186 : 0 ≤ (x52_3 : Int) := of_decide_eq_true (by first | (with_reducible assumption) | assumption)
                                      have q186 : x52_3 < (((rd_T38 l0 x13_1).f2).length : Int) := of_decide_eq_true (by first | (with_reducible assumption) | assumption)
                                      obtain ⟨ad186, e186, hx186_0⟩ := Kd.at_string HR181_2.out x52_3 p186 q186
                                      cases e186
                                      replace hx186_0 := (HB.out.cell (World.block_lt_of_cell? w _ hx186_0)).trans hx186_0
                                      replace p186 := eq_true p186
                                      replace q186 := eq_true q186
                                      go_wp2_with (first | (go_at_call 38; (with_reducible refine (impl_personAt.calls k3 _ _ l0 (rdOf ByteArray.empty ((rd_T38 l0 x13_1).f2) x52_3) t187 _ ?side1 ?side2 A28.out).mono ?_); (case side1 => repeat (first | exact (Kd.C_below HR0.out HB.out) | (with_reducible refine Kd.C_alloc ?_ _) | (with_reducible refine Kd.C_drewN ?_ _) | (with_reducible refine Kd.C_drew ?_))); (case side2 => exact HC0.out); rintro e w34 ⟨rfl, hb⟩; have n0_ := Aside0.mk (blk_below (g := gb182) (o := .cells #[.string ((rd_T38 l0 x13_1).f0), .int .i64 ((rd_T38 l0 x13_1).f1), .slice (some ad186) ((rd_T38 l0 x13_1).f2).length c181_2] 38 (0, 0)) (by (with_reducible repeat (first | refine blk_drewN ?_ _ | refine blk_drew ?_ | refine blk_alloc ?_ _)); exact BK182.out) hb); have n1_ := Aside0.mk (below_step (by repeat (first | (with_reducible first | exact HB.out | apply below_alloc | apply pw_below_drewN | apply below_drew1 | refine below_set ?_ GE182.out) | exact HB.out)) hb); clear BK182; clear HB; have BK182 := n0_; have HB := n1_; clear n0_ n1_; (try clear hb); (try clear hb2); (try clear hk); (try clear hi); have p188 : 0 ≤ (t187 : Int) := of_decide_eq_true (by first | (with_reducible assumption) | assumption); have q188 : t187 < (l0.length : Int) := of_decide_eq_true (by first | (with_reducible assumption) | assumption); obtain ⟨ad188, A188_2, c188_2, e188, hx188_0, hx188_1, hx188_2, hl188_2, hi188_2⟩ := at_T38 HR0.out t187 p188 q188; obtain rfl : ad181 = ad188 := (by injection e188); replace hx188_0 := (HB.out.cell (World.block_lt_of_cell? w _ hx188_0)).trans hx188_0; replace hx188_1 := (HB.out.cell (World.block_lt_of_cell? w _ hx188_1)).trans hx188_1; replace hx188_2 := (HB.out.cell (World.block_lt_of_cell? w _ hx188_2)).trans hx188_2; have HR188_2 := Aside0.mk hi188_2; have HC188_2 := Aside0.mk hl188_2; clear hi188_2 hl188_2; replace p188 := eq_true p188; replace q188 := eq_true q188; have hcz35_0 : w34.cell? ⟨gb182, 0, none⟩ = some (.string ((rd_T38 l0 x13_1).f0)) := (blk_cell BK182.out 0).trans rfl; have hcz35_1 : w34.cell? ⟨gb182, 1, none⟩ = some (.int .i64 ((rd_T38 l0 x13_1).f1)) := (blk_cell BK182.out 1).trans rfl; have hcz35_2 : w34.cell? ⟨gb182, 2, none⟩ = some (.slice (some ad186) ((rd_T38 l0 x13_1).f2).length c181_2) := (blk_cell BK182.out 2).trans rfl; have hfz35_0 := blk_frozen BK182.out 0; have hfz35_1 := blk_frozen BK182.out 1; have hfz35_2 := blk_frozen BK182.out 2))
                                      repeat (go_quiet (first | (go_at_call 38; (with_reducible refine (impl_personAt.calls k3 _ _ l0 (rdOf ByteArray.empty ((rd_T38 l0 x13_1).f2) x52_3) t187 _ ?side1 ?side2 A28.out).mono ?_); (case side1 => repeat (first | exact (Kd.C_below HR0.out HB.out) | (with_reducible refine Kd.C_alloc ?_ _) | (with_reducible refine Kd.C_drewN ?_ _) | (with_reducible refine Kd.C_drew ?_))); (case side2 => exact HC0.out); rintro e w34 ⟨rfl, hb⟩; have n0_ := Aside0.mk (blk_below (g := gb182) (o := .cells #[.string ((rd_T38 l0 x13_1).f0), .int .i64 ((rd_T38 l0 x13_1).f1), .slice (some ad186) ((rd_T38 l0 x13_1).f2).length c181_2] 38 (0, 0)) (by (with_reducible repeat (first | refine blk_drewN ?_ _ | refine blk_drew ?_ | refine blk_alloc ?_ _)); exact BK182.out) hb); have n1_ := Aside0.mk (below_step (by repeat (first | (with_reducible first | exact HB.out | apply below_alloc | apply pw_below_drewN | apply below_drew1 | refine below_set ?_ GE182.out) | exact HB.out)) hb); clear BK182; clear HB; have BK182 := n0_; have HB := n1_; clear n0_ n1_; (try clear hb); (try clear hb2); (try clear hk); (try clear hi); have p188 : 0 ≤ (t187 : Int) := of_decide_eq_true (by first | (with_reducible assumption) | assumption); have q188 : t187 < (l0.length : Int) := of_decide_eq_true (by first | (with_reducible assumption) | assumption); obtain ⟨ad188, A188_2, c188_2, e188, hx188_0, hx188_1, hx188_2, hl188_2, hi188_2⟩ := at_T38 HR0.out t187 p188 q188; obtain rfl : ad181 = ad188 := (by injection e188); replace hx188_0 := (HB.out.cell (World.block_lt_of_cell? w _ hx188_0)).trans hx188_0; replace hx188_1 := (HB.out.cell (World.block_lt_of_cell? w _ hx188_1)).trans hx188_1; replace hx188_2 := (HB.out.cell (World.block_lt_of_cell? w _ hx188_2)).trans hx188_2; have HR188_2 := Aside0.mk hi188_2; have HC188_2 := Aside0.mk hl188_2; clear hi188_2 hl188_2; replace p188 := eq_true p188; replace q188 := eq_true q188; have hcz35_0 : w34.cell? ⟨gb182, 0, none⟩ = some (.string ((rd_T38 l0 x13_1).f0)) := (blk_cell BK182.out 0).trans rfl; have hcz35_1 : w34.cell? ⟨gb182, 1, none⟩ = some (.int .i64 ((rd_T38 l0 x13_1).f1)) := (blk_cell BK182.out 1).trans rfl; have hcz35_2 : w34.cell? ⟨gb182, 2, none⟩ = some (.slice (some ad186) ((rd_T38 l0 x13_1).f2).length c181_2) := (blk_cell BK182.out 2).trans rfl; have hfz35_0 := blk_frozen BK182.out 0; have hfz35_1 := blk_frozen BK182.out 1; have hfz35_2 := blk_frozen BK182.out 2)); try go_wp2_with (first | (go_at_call 38; (with_reducible refine (impl_personAt.calls k3 _ _ l0 (rdOf ByteArray.empty ((rd_T38 l0 x13_1).f2) x52_3) t187 _ ?side1 ?side2 A28.out).mono ?_); (case side1 => repeat (first | exact (Kd.C_below HR0.out HB.out) | (with_reducible refine Kd.C_alloc ?_ _) | (with_reducible refine Kd.C_drewN ?_ _) | (with_reducible refine Kd.C_drew ?_))); (case side2 => exact HC0.out); rintro e w34 ⟨rfl, hb⟩; have n0_ := Aside0.mk (blk_below (g := gb182) (o := .cells #[.string ((rd_T38 l0 x13_1).f0), .int .i64 ((rd_T38 l0 x13_1).f1), .slice (some ad186) ((rd_T38 l0 x13_1).f2).length c181_2] 38 (0, 0)) (by (with_reducible repeat (first | refine blk_drewN ?_ _ | refine blk_drew ?_ | refine blk_alloc ?_ _)); exact BK182.out) hb); have n1_ := Aside0.mk (below_step (by repeat (first | (with_reducible first | exact HB.out | apply below_alloc | apply pw_below_drewN | apply below_drew1 | refine below_set ?_ GE182.out) | exact HB.out)) hb); clear BK182; clear HB; have BK182 := n0_; have HB := n1_; clear n0_ n1_; (try clear hb); (try clear hb2); (try clear hk); (try clear hi); have p188 : 0 ≤ (t187 : Int) := of_decide_eq_true (by first | (with_reducible assumption) | assumption); have q188 : t187 < (l0.length : Int) := of_decide_eq_true (by first | (with_reducible assumption) | assumption); obtain ⟨ad188, A188_2, c188_2, e188, hx188_0, hx188_1, hx188_2, hl188_2, hi188_2⟩ := at_T38 HR0.out t187 p188 q188; obtain rfl : ad181 = ad188 := (by injection e188); replace hx188_0 := (HB.out.cell (World.block_lt_of_cell? w _ hx188_0)).trans hx188_0; replace hx188_1 := (HB.out.cell (World.block_lt_of_cell? w _ hx188_1)).trans hx188_1; replace hx188_2 := (HB.out.cell (World.block_lt_of_cell? w _ hx188_2)).trans hx188_2; have HR188_2 := Aside0.mk hi188_2; have HC188_2 := Aside0.mk hl188_2; clear hi188_2 hl188_2; replace p188 := eq_true p188; replace q188 := eq_true q188; have hcz35_0 : w34.cell? ⟨gb182, 0, none⟩ = some (.string ((rd_T38 l0 x13_1).f0)) := (blk_cell BK182.out 0).trans rfl; have hcz35_1 : w34.cell? ⟨gb182, 1, none⟩ = some (.int .i64 ((rd_T38 l0 x13_1).f1)) := (blk_cell BK182.out 1).trans rfl; have hcz35_2 : w34.cell? ⟨gb182, 2, none⟩ = some (.slice (some ad186) ((rd_T38 l0 x13_1).f2).length c181_2) := (blk_cell BK182.out 2).trans rfl; have hfz35_0 := blk_frozen BK182.out 0; have hfz35_1 := blk_frozen BK182.out 1; have hfz35_2 := blk_frozen BK182.out 2)))
                                      go_ret
                                      exact ⟨by first | rfl | (simp [errW_none, errW_some] <;> rfl) | (simp [*, errW_none, errW_some] <;> rfl), by repeat (first | (with_reducible first | exact HB.out | apply below_alloc | apply pw_below_drewN | apply below_drew1 | refine below_set ?_ GE182.out) | exact HB.out)⟩
                                    · rw [if_neg c33] at H
                                      have c33b0 : decide (((rd_T38 l0 x13_1).f1) ≤ ((rd_T38 l0 t187).f1)) = false := decide_eq_false c33
                                      clear c33
                                      by_cases c36 : x52_3 > 0
                                      · rw [if_pos c36] at H
                                        have c36b0 : decide (0 < x52_3) = true := decide_eq_true c36
                                        clear c36
                                        obtain ⟨ji37, hji37⟩ : ∃ j_ : Int, (wrap64 (x52_3 - 1)) = j_ := ⟨_, rfl⟩
                                        replace H : (if 0 ≤ (ji37) then (if (ji37) < (((rd_T38 l0 x13_1).f2).length : Int) then (if ((Op.bytesLess ((rdOf ByteArray.empty ((rd_T38 l0 x13_1).f2) (ji37)).toList) ((rdOf ByteArray.empty ((rd_T38 l0 x13_1).f2) x52_3).toList)) = true) then (impl_ValidPersons.l1 k3 l0 l0 (l0.length : Int) x13_1 ((rd_T38 l0 x13_1).f2) (((rd_T38 l0 x13_1).f2).length : Int) (wrap64 (x52_3 + 1)) ((rd_T38 l0 x13_1).f0) ((rd_T38 l0 x13_1).f1) ((rd_T38 l0 x13_1).f2)) else (some false)) else (none)) else (none)) = some r := by first | (rw [hji37] at H; exact H) | (simp only [hji37] at H ⊢; exact H)
                                        (try rw [hji37] at A28)
                                        have hji37w : (IntKind.i64.wrap (x52_3 - 1)) = ji37 := (i64_w _).trans hji37
                                        by_cases c38 : 0 ≤ (ji37)
                                        · rw [if_pos c38] at H
                                          have c38b0 : decide (0 ≤ (ji37)) = true := decide_eq_true c38
                                          clear c38
                                          by_cases c39 : (ji37) < (((rd_T38 l0 x13_1).f2).length : Int)
                                          · rw [if_pos c39] at H
                                            have c39b0 : decide ((ji37) < (((rd_T38 l0 x13_1).f2).length : Int)) = true := decide_eq_true c39
                                            clear c39
                                            by_cases c40 : ((Op.bytesLess ((rdOf ByteArray.empty ((rd_T38 l0 x13_1).f2) (ji37)).toList) ((rdOf ByteArray.empty ((rd_T38 l0 x13_1).f2) x52_3).toList)) = true)
                                            · rw [if_pos c40] at H
                                              have c40b0 : (Op.bytesLess ((rdOf ByteArray.empty ((rd_T38 l0 x13_1).f2) (ji37)).toList) ((rdOf ByteArray.empty ((rd_T38 l0 x13_1).f2) x52_3).toList)) = true := c40
                                              clear c40
                                              have H' := Aside0.mk H
                                              clear H
                                              have p186 : 0 ≤ (x52_3 : Int) := of_decide_eq_true (by first | (with_reducible assumption) | assumption)
                                              have q186 : x52_3 < (((rd_T38 l0 x13_1).f2).length : Int) := of_decide_eq_true (by first | (with_reducible assumption) | assumption)
                                              obtain ⟨ad186, e186, hx186_0⟩ := Kd.at_string HR181_2.out x52_3 p186 q186
                                              cases e186
                                              replace hx186_0 := (HB.out.cell (World.block_lt_of_cell? w _ hx186_0)).trans hx186_0
                                              replace p186 := eq_true p186
                                              replace q186 := eq_true q186
                                              go_wp2_with (first | (go_at_call 38; (with_reducible refine (impl_personAt.calls k3 _ _ l0 (rdOf ByteArray.empty ((rd_T38 l0 x13_1).f2) x52_3) t187 _ ?side1 ?side2 A28.out).mono ?_); (case side1 => repeat (first | exact (Kd.C_below HR0.out HB.out) | (with_reducible refine Kd.C_alloc ?_ _) | (with_reducible refine Kd.C_drewN ?_ _) | (with_reducible refine Kd.C_drew ?_))); (case side2 => exact HC0.out); rintro e w41 ⟨rfl, hb⟩; have n0_ := Aside0.mk (blk_below (g := gb182) (o := .cells #[.string ((rd_T38 l0 x13_1).f0), .int .i64 ((rd_T38 l0 x13_1).f1), .slice (some ad186) ((rd_T38 l0 x13_1).f2).length c181_2] 38 (0, 0)) (by (with_reducible repeat (first | refine blk_drewN ?_ _ | refine blk_drew ?_ | refine blk_alloc ?_ _)); exact BK182.out) hb); have n1_ := Aside0.mk (below_step (by repeat (first | (with_reducible first | exact HB.out | apply below_alloc | apply pw_below_drewN | apply below_drew1 | refine below_set ?_ GE182.out) | exact HB.out)) hb); clear BK182; clear HB; have BK182 := n0_; have HB := n1_; clear n0_ n1_; (try clear hb); (try clear hb2); (try clear hk); (try clear hi); have p188 : 0 ≤ (t187 : Int) := of_decide_eq_true (by first | (with_reducible assumption) | assumption); have q188 : t187 < (l0.length : Int) := of_decide_eq_true (by first | (with_reducible assumption) | assumption); obtain ⟨ad188, A188_2, c188_2, e188, hx188_0, hx188_1, hx188_2, hl188_2, hi188_2⟩ := at_T38 HR0.out t187 p188 q188; obtain rfl : ad181 = ad188 := (by injection e188); replace hx188_0 := (HB.out.cell (World.block_lt_of_cell? w _ hx188_0)).trans hx188_0; replace hx188_1 := (HB.out.cell (World.block_lt_of_cell? w _ hx188_1)).trans hx188_1; replace hx188_2 := (HB.out.cell (World.block_lt_of_cell? w _ hx188_2)).trans hx188_2; have HR188_2 := Aside0.mk hi188_2; have HC188_2 := Aside0.mk hl188_2; clear hi188_2 hl188_2; replace p188 := eq_true p188; replace q188 := eq_true q188; have hcz42_0 : w41.cell? ⟨gb182, 0, none⟩ = some (.string ((rd_T38 l0 x13_1).f0)) := (blk_cell BK182.out 0).trans rfl; have hcz42_1 : w41.cell? ⟨gb182, 1, none⟩ = some (.int .i64 ((rd_T38 l0 x13_1).f1)) := (blk_cell BK182.out 1).trans rfl; have hcz42_2 : w41.cell? ⟨gb182, 2, none⟩ = some (.slice (some ad186) ((rd_T38 l0 x13_1).f2).length c181_2) := (blk_cell BK182.out 2).trans rfl; have hfz42_0 := blk_frozen BK182.out 0; have hfz42_1 := blk_frozen BK182.out 1; have hfz42_2 := blk_frozen BK182.out 2; have p189 : 0 ≤ ((ji37) : Int) := of_decide_eq_true (by first | (with_reducible assumption) | assumption); have q189 : (ji37) < (((rd_T38 l0 x13_1).f2).length : Int) := of_decide_eq_true (by first | (with_reducible assumption) | assumption); obtain ⟨ad189, e189, hx189_0⟩ := Kd.at_string HR181_2.out (ji37) p189 q189; obtain rfl : ad186 = ad189 := (by injection e189); replace hx189_0 := (HB.out.cell (World.block_lt_of_cell? w _ hx189_0)).trans hx189_0; replace p189 := eq_true p189; replace q189 := eq_true q189))
                                              repeat (go_quiet (first | (go_at_call 38; (with_reducible refine (impl_personAt.calls k3 _ _ l0 (rdOf ByteArray.empty ((rd_T38 l0 x13_1).f2) x52_3) t187 _ ?side1 ?side2 A28.out).mono ?_); (case side1 => repeat (first | exact (Kd.C_below HR0.out HB.out) | (with_reducible refine Kd.C_alloc ?_ _) | (with_reducible refine Kd.C_drewN ?_ _) | (with_reducible refine Kd.C_drew ?_))); (case side2 => exact HC0.out); rintro e w41 ⟨rfl, hb⟩; have n0_ := Aside0.mk (blk_below (g := gb182) (o := .cells #[.string ((rd_T38 l0 x13_1).f0), .int .i64 ((rd_T38 l0 x13_1).f1), .slice (some ad186) ((rd_T38 l0 x13_1).f2).length c181_2] 38 (0, 0)) (by (with_reducible repeat (first | refine blk_drewN ?_ _ | refine blk_drew ?_ | refine blk_alloc ?_ _)); exact BK182.out) hb); have n1_ := Aside0.mk (below_step (by repeat (first | (with_reducible first | exact HB.out | apply below_alloc | apply pw_below_drewN | apply below_drew1 | refine below_set ?_ GE182.out) | exact HB.out)) hb); clear BK182; clear HB; have BK182 := n0_; have HB := n1_; clear n0_ n1_; (try clear hb); (try clear hb2); (try clear hk); (try clear hi); have p188 : 0 ≤ (t187 : Int) := of_decide_eq_true (by first | (with_reducible assumption) | assumption); have q188 : t187 < (l0.length : Int) := of_decide_eq_true (by first | (with_reducible assumption) | assumption); obtain ⟨ad188, A188_2, c188_2, e188, hx188_0, hx188_1, hx188_2, hl188_2, hi188_2⟩ := at_T38 HR0.out t187 p188 q188; obtain rfl : ad181 = ad188 := (by injection e188); replace hx188_0 := (HB.out.cell (World.block_lt_of_cell? w _ hx188_0)).trans hx188_0; replace hx188_1 := (HB.out.cell (World.block_lt_of_cell? w _ hx188_1)).trans hx188_1; replace hx188_2 := (HB.out.cell (World.block_lt_of_cell? w _ hx188_2)).trans hx188_2; have HR188_2 := Aside0.mk hi188_2; have HC188_2 := Aside0.mk hl188_2; clear hi188_2 hl188_2; replace p188 := eq_true p188; replace q188 := eq_true q188; have hcz42_0 : w41.cell? ⟨gb182, 0, none⟩ = some (.string ((rd_T38 l0 x13_1).f0)) := (blk_cell BK182.out 0).trans rfl; have hcz42_1 : w41.cell? ⟨gb182, 1, none⟩ = some (.int .i64 ((rd_T38 l0 x13_1).f1)) := (blk_cell BK182.out 1).trans rfl; have hcz42_2 : w41.cell? ⟨gb182, 2, none⟩ = some (.slice (some ad186) ((rd_T38 l0 x13_1).f2).length c181_2) := (blk_cell BK182.out 2).trans rfl; have hfz42_0 := blk_frozen BK182.out 0; have hfz42_1 := blk_frozen BK182.out 1; have hfz42_2 := blk_frozen BK182.out 2; have p189 : 0 ≤ ((ji37) : Int) := of_decide_eq_true (by first | (with_reducible assumption) | assumption); have q189 : (ji37) < (((rd_T38 l0 x13_1).f2).length : Int) := of_decide_eq_true (by first | (with_reducible assumption) | assumption); obtain ⟨ad189, e189, hx189_0⟩ := Kd.at_string HR181_2.out (ji37) p189 q189; obtain rfl : ad186 = ad189 := (by injection e189); replace hx189_0 := (HB.out.cell (World.block_lt_of_cell? w _ hx189_0)).trans hx189_0; replace p189 := eq_true p189; replace q189 := eq_true q189)); try go_wp2_with (first | (go_at_call 38; (with_reducible refine (impl_personAt.calls k3 _ _ l0 (rdOf ByteArray.empty ((rd_T38 l0 x13_1).f2) x52_3) t187 _ ?side1 ?side2 A28.out).mono ?_); (case side1 => repeat (first | exact (Kd.C_below HR0.out HB.out) | (with_reducible refine Kd.C_alloc ?_ _) | (with_reducible refine Kd.C_drewN ?_ _) | (with_reducible refine Kd.C_drew ?_))); (case side2 => exact HC0.out); rintro e w41 ⟨rfl, hb⟩; have n0_ := Aside0.mk (blk_below (g := gb182) (o := .cells #[.string ((rd_T38 l0 x13_1).f0), .int .i64 ((rd_T38 l0 x13_1).f1), .slice (some ad186) ((rd_T38 l0 x13_1).f2).length c181_2] 38 (0, 0)) (by (with_reducible repeat (first | refine blk_drewN ?_ _ | refine blk_drew ?_ | refine blk_alloc ?_ _)); exact BK182.out) hb); have n1_ := Aside0.mk (below_step (by repeat (first | (with_reducible first | exact HB.out | apply below_alloc | apply pw_below_drewN | apply below_drew1 | refine below_set ?_ GE182.out) | exact HB.out)) hb); clear BK182; clear HB; have BK182 := n0_; have HB := n1_; clear n0_ n1_; (try clear hb); (try clear hb2); (try clear hk); (try clear hi); have p188 : 0 ≤ (t187 : Int) := of_decide_eq_true (by first | (with_reducible assumption) | assumption); have q188 : t187 < (l0.length : Int) := of_decide_eq_true (by first | (with_reducible assumption) | assumption); obtain ⟨ad188, A188_2, c188_2, e188, hx188_0, hx188_1, hx188_2, hl188_2, hi188_2⟩ := at_T38 HR0.out t187 p188 q188; obtain rfl : ad181 = ad188 := (by injection e188); replace hx188_0 := (HB.out.cell (World.block_lt_of_cell? w _ hx188_0)).trans hx188_0; replace hx188_1 := (HB.out.cell (World.block_lt_of_cell? w _ hx188_1)).trans hx188_1; replace hx188_2 := (HB.out.cell (World.block_lt_of_cell? w _ hx188_2)).trans hx188_2; have HR188_2 := Aside0.mk hi188_2; have HC188_2 := Aside0.mk hl188_2; clear hi188_2 hl188_2; replace p188 := eq_true p188; replace q188 := eq_true q188; have hcz42_0 : w41.cell? ⟨gb182, 0, none⟩ = some (.string ((rd_T38 l0 x13_1).f0)) := (blk_cell BK182.out 0).trans rfl; have hcz42_1 : w41.cell? ⟨gb182, 1, none⟩ = some (.int .i64 ((rd_T38 l0 x13_1).f1)) := (blk_cell BK182.out 1).trans rfl; have hcz42_2 : w41.cell? ⟨gb182, 2, none⟩ = some (.slice (some ad186) ((rd_T38 l0 x13_1).f2).length c181_2) := (blk_cell BK182.out 2).trans rfl; have hfz42_0 := blk_frozen BK182.out 0; have hfz42_1 := blk_frozen BK182.out 1; have hfz42_2 := blk_frozen BK182.out 2; have p189 : 0 ≤ ((ji37) : Int) := of_decide_eq_true (by first | (with_reducible assumption) | assumption); have q189 : (ji37) < (((rd_T38 l0 x13_1).f2).length : Int) := of_decide_eq_true (by first | (with_reducible assumption) | assumption); obtain ⟨ad189, e189, hx189_0⟩ := Kd.at_string HR181_2.out (ji37) p189 q189; obtain rfl : ad186 = ad189 := (by injection e189); replace hx189_0 := (HB.out.cell (World.block_lt_of_cell? w _ hx189_0)).trans hx189_0; replace p189 := eq_true p189; replace q189 := eq_true q189)))
                                              go_roundg k3
                                              case measure => have := HK1.out; have := HJ5.out; have := HK3.out; omega
                                              case rel => exact ⟨(wrap64 (x52_3 + 1)), (by first | rfl | (simp; done) | (simp [*]; done)), H', ⟨by have := HK1.out; have := HJ5.out; have := HK3.out; omega⟩, ⟨by (with_reducible repeat (first | refine blk_drewN ?_ _ | refine blk_drew ?_ | refine blk_alloc ?_ _)); exact BK182.out⟩, ⟨by repeat (first | (with_reducible first | exact HB.out | apply below_alloc | apply pw_below_drewN | apply below_drew1 | refine below_set ?_ GE182.out) | exact HB.out)⟩⟩
                                            · rw [if_neg c40] at H
                                              have c40b0 : (Op.bytesLess ((rdOf ByteArray.empty ((rd_T38 l0 x13_1).f2) (ji37)).toList) ((rdOf ByteArray.empty ((rd_T38 l0 x13_1).f2) x52_3).toList)) = false := by simpa using c40
                                              clear c40
                                              obtain rfl := Option.some.inj H
                                              have p186 : 0 ≤ (x52_3 : Int) := of_decide_eq_true (by first | (with_reducible assumption) | assumption)
                                              have q186 : x52_3 < (((rd_T38 l0 x13_1).f2).length : Int) := of_decide_eq_true (by first | (with_reducible assumption) | assumption)
                                              obtain ⟨ad186, e186, hx186_0⟩ := Kd.at_string HR181_2.out x52_3 p186 q186
                                              cases e186
                                              replace hx186_0 := (HB.out.cell (World.block_lt_of_cell? w _ hx186_0)).trans hx186_0
                                              replace p186 := eq_true p186
                                              replace q186 := eq_true q186
                                              go_wp2_with (first | (go_at_call 38; (with_reducible refine (impl_personAt.calls k3 _ _ l0 (rdOf ByteArray.empty ((rd_T38 l0 x13_1).f2) x52_3) t187 _ ?side1 ?side2 A28.out).mono ?_); (case side1 => repeat (first | exact (Kd.C_below HR0.out HB.out) | (with_reducible refine Kd.C_alloc ?_ _) | (with_reducible refine Kd.C_drewN ?_ _) | (with_reducible refine Kd.C_drew ?_))); (case side2 => exact HC0.out); rintro e w43 ⟨rfl, hb⟩; have n0_ := Aside0.mk (blk_below (g := gb182) (o := .cells #[.string ((rd_T38 l0 x13_1).f0), .int .i64 ((rd_T38 l0 x13_1).f1), .slice (some ad186) ((rd_T38 l0 x13_1).f2).length c181_2] 38 (0, 0)) (by (with_reducible repeat (first | refine blk_drewN ?_ _ | refine blk_drew ?_ | refine blk_alloc ?_ _)); exact BK182.out) hb); have n1_ := Aside0.mk (below_step (by repeat (first | (with_reducible first | exact HB.out | apply below_alloc | apply pw_below_drewN | apply below_drew1 | refine below_set ?_ GE182.out) | exact HB.out)) hb); clear BK182; clear HB; have BK182 := n0_; have HB := n1_; clear n0_ n1_; (try clear hb); (try clear hb2); (try clear hk); (try clear hi); have p188 : 0 ≤ (t187 : Int) := of_decide_eq_true (by first | (with_reducible assumption) | assumption); have q188 : t187 < (l0.length : Int) := of_decide_eq_true (by first | (with_reducible assumption) | assumption); obtain ⟨ad188, A188_2, c188_2, e188, hx188_0, hx188_1, hx188_2, hl188_2, hi188_2⟩ := at_T38 HR0.out t187 p188 q188; obtain rfl : ad181 = ad188 := (by injection e188); replace hx188_0 := (HB.out.cell (World.block_lt_of_cell? w _ hx188_0)).trans hx188_0; replace hx188_1 := (HB.out.cell (World.block_lt_of_cell? w _ hx188_1)).trans hx188_1; replace hx188_2 := (HB.out.cell (World.block_lt_of_cell? w _ hx188_2)).trans hx188_2; have HR188_2 := Aside0.mk hi188_2; have HC188_2 := Aside0.mk hl188_2; clear hi188_2 hl188_2; replace p188 := eq_true p188; replace q188 := eq_true q188; have hcz44_0 : w43.cell? ⟨gb182, 0, none⟩ = some (.string ((rd_T38 l0 x13_1).f0)) := (blk_cell BK182.out 0).trans rfl; have hcz44_1 : w43.cell? ⟨gb182, 1, none⟩ = some (.int .i64 ((rd_T38 l0 x13_1).f1)) := (blk_cell BK182.out 1).trans rfl; have hcz44_2 : w43.cell? ⟨gb182, 2, none⟩ = some (.slice (some ad186) ((rd_T38 l0 x13_1).f2).length c181_2) := (blk_cell BK182.out 2).trans rfl; have hfz44_0 := blk_frozen BK182.out 0; have hfz44_1 := blk_frozen BK182.out 1; have hfz44_2 := blk_frozen BK182.out 2; have p189 : 0 ≤ ((ji37) : Int) := of_decide_eq_true (by first | (with_reducible assumption) | assumption); have q189 : (ji37) < (((rd_T38 l0 x13_1).f2).length : Int) := of_decide_eq_true (by first | (with_reducible assumption) | assumption); obtain ⟨ad189, e189, hx189_0⟩ := Kd.at_string HR181_2.out (ji37) p189 q189; obtain rfl : ad186 = ad189 := (by injection e189); replace hx189_0 := (HB.out.cell (World.block_lt_of_cell? w _ hx189_0)).trans hx189_0; replace p189 := eq_true p189; replace q189 := eq_true q189))
                                              repeat (go_quiet (first | (go_at_call 38; (with_reducible refine (impl_personAt.calls k3 _ _ l0 (rdOf ByteArray.empty ((rd_T38 l0 x13_1).f2) x52_3) t187 _ ?side1 ?side2 A28.out).mono ?_); (case side1 => repeat (first | exact (Kd.C_below HR0.out HB.out) | (with_reducible refine Kd.C_alloc ?_ _) | (with_reducible refine Kd.C_drewN ?_ _) | (with_reducible refine Kd.C_drew ?_))); (case side2 => exact HC0.out); rintro e w43 ⟨rfl, hb⟩; have n0_ := Aside0.mk (blk_below (g := gb182) (o := .cells #[.string ((rd_T38 l0 x13_1).f0), .int .i64 ((rd_T38 l0 x13_1).f1), .slice (some ad186) ((rd_T38 l0 x13_1).f2).length c181_2] 38 (0, 0)) (by (with_reducible repeat (first | refine blk_drewN ?_ _ | refine blk_drew ?_ | refine blk_alloc ?_ _)); exact BK182.out) hb); have n1_ := Aside0.mk (below_step (by repeat (first | (with_reducible first | exact HB.out | apply below_alloc | apply pw_below_drewN | apply below_drew1 | refine below_set ?_ GE182.out) | exact HB.out)) hb); clear BK182; clear HB; have BK182 := n0_; have HB := n1_; clear n0_ n1_; (try clear hb); (try clear hb2); (try clear hk); (try clear hi); have p188 : 0 ≤ (t187 : Int) := of_decide_eq_true (by first | (with_reducible assumption) | assumption); have q188 : t187 < (l0.length : Int) := of_decide_eq_true (by first | (with_reducible assumption) | assumption); obtain ⟨ad188, A188_2, c188_2, e188, hx188_0, hx188_1, hx188_2, hl188_2, hi188_2⟩ := at_T38 HR0.out t187 p188 q188; obtain rfl : ad181 = ad188 := (by injection e188); replace hx188_0 := (HB.out.cell (World.block_lt_of_cell? w _ hx188_0)).trans hx188_0; replace hx188_1 := (HB.out.cell (World.block_lt_of_cell? w _ hx188_1)).trans hx188_1; replace hx188_2 := (HB.out.cell (World.block_lt_of_cell? w _ hx188_2)).trans hx188_2; have HR188_2 := Aside0.mk hi188_2; have HC188_2 := Aside0.mk hl188_2; clear hi188_2 hl188_2; replace p188 := eq_true p188; replace q188 := eq_true q188; have hcz44_0 : w43.cell? ⟨gb182, 0, none⟩ = some (.string ((rd_T38 l0 x13_1).f0)) := (blk_cell BK182.out 0).trans rfl; have hcz44_1 : w43.cell? ⟨gb182, 1, none⟩ = some (.int .i64 ((rd_T38 l0 x13_1).f1)) := (blk_cell BK182.out 1).trans rfl; have hcz44_2 : w43.cell? ⟨gb182, 2, none⟩ = some (.slice (some ad186) ((rd_T38 l0 x13_1).f2).length c181_2) := (blk_cell BK182.out 2).trans rfl; have hfz44_0 := blk_frozen BK182.out 0; have hfz44_1 := blk_frozen BK182.out 1; have hfz44_2 := blk_frozen BK182.out 2; have p189 : 0 ≤ ((ji37) : Int) := of_decide_eq_true (by first | (with_reducible assumption) | assumption); have q189 : (ji37) < (((rd_T38 l0 x13_1).f2).length : Int) := of_decide_eq_true (by first | (with_reducible assumption) | assumption); obtain ⟨ad189, e189, hx189_0⟩ := Kd.at_string HR181_2.out (ji37) p189 q189; obtain rfl : ad186 = ad189 := (by injection e189); replace hx189_0 := (HB.out.cell (World.block_lt_of_cell? w _ hx189_0)).trans hx189_0; replace p189 := eq_true p189; replace q189 := eq_true q189)); try go_wp2_with (first | (go_at_call 38; (with_reducible refine (impl_personAt.calls k3 _ _ l0 (rdOf ByteArray.empty ((rd_T38 l0 x13_1).f2) x52_3) t187 _ ?side1 ?side2 A28.out).mono ?_); (case side1 => repeat (first | exact (Kd.C_below HR0.out HB.out) | (with_reducible refine Kd.C_alloc ?_ _) | (with_reducible refine Kd.C_drewN ?_ _) | (with_reducible refine Kd.C_drew ?_))); (case side2 => exact HC0.out); rintro e w43 ⟨rfl, hb⟩; have n0_ := Aside0.mk (blk_below (g := gb182) (o := .cells #[.string ((rd_T38 l0 x13_1).f0), .int .i64 ((rd_T38 l0 x13_1).f1), .slice (some ad186) ((rd_T38 l0 x13_1).f2).length c181_2] 38 (0, 0)) (by (with_reducible repeat (first | refine blk_drewN ?_ _ | refine blk_drew ?_ | refine blk_alloc ?_ _)); exact BK182.out) hb); have n1_ := Aside0.mk (below_step (by repeat (first | (with_reducible first | exact HB.out | apply below_alloc | apply pw_below_drewN | apply below_drew1 | refine below_set ?_ GE182.out) | exact HB.out)) hb); clear BK182; clear HB; have BK182 := n0_; have HB := n1_; clear n0_ n1_; (try clear hb); (try clear hb2); (try clear hk); (try clear hi); have p188 : 0 ≤ (t187 : Int) := of_decide_eq_true (by first | (with_reducible assumption) | assumption); have q188 : t187 < (l0.length : Int) := of_decide_eq_true (by first | (with_reducible assumption) | assumption); obtain ⟨ad188, A188_2, c188_2, e188, hx188_0, hx188_1, hx188_2, hl188_2, hi188_2⟩ := at_T38 HR0.out t187 p188 q188; obtain rfl : ad181 = ad188 := (by injection e188); replace hx188_0 := (HB.out.cell (World.block_lt_of_cell? w _ hx188_0)).trans hx188_0; replace hx188_1 := (HB.out.cell (World.block_lt_of_cell? w _ hx188_1)).trans hx188_1; replace hx188_2 := (HB.out.cell (World.block_lt_of_cell? w _ hx188_2)).trans hx188_2; have HR188_2 := Aside0.mk hi188_2; have HC188_2 := Aside0.mk hl188_2; clear hi188_2 hl188_2; replace p188 := eq_true p188; replace q188 := eq_true q188; have hcz44_0 : w43.cell? ⟨gb182, 0, none⟩ = some (.string ((rd_T38 l0 x13_1).f0)) := (blk_cell BK182.out 0).trans rfl; have hcz44_1 : w43.cell? ⟨gb182, 1, none⟩ = some (.int .i64 ((rd_T38 l0 x13_1).f1)) := (blk_cell BK182.out 1).trans rfl; have hcz44_2 : w43.cell? ⟨gb182, 2, none⟩ = some (.slice (some ad186) ((rd_T38 l0 x13_1).f2).length c181_2) := (blk_cell BK182.out 2).trans rfl; have hfz44_0 := blk_frozen BK182.out 0; have hfz44_1 := blk_frozen BK182.out 1; have hfz44_2 := blk_frozen BK182.out 2; have p189 : 0 ≤ ((ji37) : Int) := of_decide_eq_true (by first | (with_reducible assumption) | assumption); have q189 : (ji37) < (((rd_T38 l0 x13_1).f2).length : Int) := of_decide_eq_true (by first | (with_reducible assumption) | assumption); obtain ⟨ad189, e189, hx189_0⟩ := Kd.at_string HR181_2.out (ji37) p189 q189; obtain rfl : ad186 = ad189 := (by injection e189); replace hx189_0 := (HB.out.cell (World.block_lt_of_cell? w _ hx189_0)).trans hx189_0; replace p189 := eq_true p189; replace q189 := eq_true q189)))
                                              go_ret
                                              exact ⟨by first | rfl | (simp [errW_none, errW_some] <;> rfl) | (simp only [← hji37]; first | rfl | (simp [errW_none, errW_some] <;> rfl)) | (simp [*, errW_none, errW_some] <;> rfl), by repeat (first | (with_reducible first | exact HB.out | apply below_alloc | apply pw_below_drewN | apply below_drew1 | refine below_set ?_ GE182.out) | exact HB.out)⟩
                                          · rw [if_neg c39] at H
                                            exact absurd H (by simp)
                                        · rw [if_neg c38] at H
                                          exact absurd H (by simp)
                                      · rw [if_neg c36] at H
                                        have c36b0 : decide (0 < x52_3) = false := decide_eq_false c36
                                        clear c36
                                        have H' := Aside0.mk H
                                        clear H
                                        have p186 : 0 ≤ (x52_3 : Int) := of_decide_eq_true (by first | (with_reducible assumption) | assumption)
                                        have q186 : x52_3 < (((rd_T38 l0 x13_1).f2).length : Int) := of_decide_eq_true (by first | (with_reducible assumption) | assumption)
                                        obtain ⟨ad186, e186, hx186_0⟩ := Kd.at_string HR181_2.out x52_3 p186 q186
                                        cases e186
                                        replace hx186_0 := (HB.out.cell (World.block_lt_of_cell? w _ hx186_0)).trans hx186_0
                                        replace p186 := eq_true p186
                                        replace q186 := eq_true q186
                                        go_wp2_with (first | (go_at_call 38; (with_reducible refine (impl_personAt.calls k3 _ _ l0 (rdOf ByteArray.empty ((rd_T38 l0 x13_1).f2) x52_3) t187 _ ?side1 ?side2 A28.out).mono ?_); (case side1 => repeat (first | exact (Kd.C_below HR0.out HB.out) | (with_reducible refine Kd.C_alloc ?_ _) | (with_reducible refine Kd.C_drewN ?_ _) | (with_reducible refine Kd.C_drew ?_))); (case side2 => exact HC0.out); rintro e w45 ⟨rfl, hb⟩; have n0_ := Aside0.mk (blk_below (g := gb182) (o := .cells #[.string ((rd_T38 l0 x13_1).f0), .int .i64 ((rd_T38 l0 x13_1).f1), .slice (some ad186) ((rd_T38 l0 x13_1).f2).length c181_2] 38 (0, 0)) (by (with_reducible repeat (first | refine blk_drewN ?_ _ | refine blk_drew ?_ | refine blk_alloc ?_ _)); exact BK182.out) hb); have n1_ := Aside0.mk (below_step (by repeat (first | (with_reducible first | exact HB.out | apply below_alloc | apply pw_below_drewN | apply below_drew1 | refine below_set ?_ GE182.out) | exact HB.out)) hb); clear BK182; clear HB; have BK182 := n0_; have HB := n1_; clear n0_ n1_; (try clear hb); (try clear hb2); (try clear hk); (try clear hi); have p188 : 0 ≤ (t187 : Int) := of_decide_eq_true (by first | (with_reducible assumption) | assumption); have q188 : t187 < (l0.length : Int) := of_decide_eq_true (by first | (with_reducible assumption) | assumption); obtain ⟨ad188, A188_2, c188_2, e188, hx188_0, hx188_1, hx188_2, hl188_2, hi188_2⟩ := at_T38 HR0.out t187 p188 q188; obtain rfl : ad181 = ad188 := (by injection e188); replace hx188_0 := (HB.out.cell (World.block_lt_of_cell? w _ hx188_0)).trans hx188_0; replace hx188_1 := (HB.out.cell (World.block_lt_of_cell? w _ hx188_1)).trans hx188_1; replace hx188_2 := (HB.out.cell (World.block_lt_of_cell? w _ hx188_2)).trans hx188_2; have HR188_2 := Aside0.mk hi188_2; have HC188_2 := Aside0.mk hl188_2; clear hi188_2 hl188_2; replace p188 := eq_true p188; replace q188 := eq_true q188; have hcz46_0 : w45.cell? ⟨gb182, 0, none⟩ = some (.string ((rd_T38 l0 x13_1).f0)) := (blk_cell BK182.out 0).trans rfl; have hcz46_1 : w45.cell? ⟨gb182, 1, none⟩ = some (.int .i64 ((rd_T38 l0 x13_1).f1)) := (blk_cell BK182.out 1).trans rfl; have hcz46_2 : w45.cell? ⟨gb182, 2, none⟩ = some (.slice (some ad186) ((rd_T38 l0 x13_1).f2).length c181_2) := (blk_cell BK182.out 2).trans rfl; have hfz46_0 := blk_frozen BK182.out 0; have hfz46_1 := blk_frozen BK182.out 1; have hfz46_2 := blk_frozen BK182.out 2))
                                        repeat (go_quiet (first | (go_at_call 38; (with_reducible refine (impl_personAt.calls k3 _ _ l0 (rdOf ByteArray.empty ((rd_T38 l0 x13_1).f2) x52_3) t187 _ ?side1 ?side2 A28.out).mono ?_); (case side1 => repeat (first | exact (Kd.C_below HR0.out HB.out) | (with_reducible refine Kd.C_alloc ?_ _) | (with_reducible refine Kd.C_drewN ?_ _) | (with_reducible refine Kd.C_drew ?_))); (case side2 => exact HC0.out); rintro e w45 ⟨rfl, hb⟩; have n0_ := Aside0.mk (blk_below (g := gb182) (o := .cells #[.string ((rd_T38 l0 x13_1).f0), .int .i64 ((rd_T38 l0 x13_1).f1), .slice (some ad186) ((rd_T38 l0 x13_1).f2).length c181_2] 38 (0, 0)) (by (with_reducible repeat (first | refine blk_drewN ?_ _ | refine blk_drew ?_ | refine blk_alloc ?_ _)); exact BK182.out) hb); have n1_ := Aside0.mk (below_step (by repeat (first | (with_reducible first | exact HB.out | apply below_alloc | apply pw_below_drewN | apply below_drew1 | refine below_set ?_ GE182.out) | exact HB.out)) hb); clear BK182; clear HB; have BK182 := n0_; have HB := n1_; clear n0_ n1_; (try clear hb); (try clear hb2); (try clear hk); (try clear hi); have p188 : 0 ≤ (t187 : Int) := of_decide_eq_true (by first | (with_reducible assumption) | assumption); have q188 : t187 < (l0.length : Int) := of_decide_eq_true (by first | (with_reducible assumption) | assumption); obtain ⟨ad188, A188_2, c188_2, e188, hx188_0, hx188_1, hx188_2, hl188_2, hi188_2⟩ := at_T38 HR0.out t187 p188 q188; obtain rfl : ad181 = ad188 := (by injection e188); replace hx188_0 := (HB.out.cell (World.block_lt_of_cell? w _ hx188_0)).trans hx188_0; replace hx188_1 := (HB.out.cell (World.block_lt_of_cell? w _ hx188_1)).trans hx188_1; replace hx188_2 := (HB.out.cell (World.block_lt_of_cell? w _ hx188_2)).trans hx188_2; have HR188_2 := Aside0.mk hi188_2; have HC188_2 := Aside0.mk hl188_2; clear hi188_2 hl188_2; replace p188 := eq_true p188; replace q188 := eq_true q188; have hcz46_0 : w45.cell? ⟨gb182, 0, none⟩ = some (.string ((rd_T38 l0 x13_1).f0)) := (blk_cell BK182.out 0).trans rfl; have hcz46_1 : w45.cell? ⟨gb182, 1, none⟩ = some (.int .i64 ((rd_T38 l0 x13_1).f1)) := (blk_cell BK182.out 1).trans rfl; have hcz46_2 : w45.cell? ⟨gb182, 2, none⟩ = some (.slice (some ad186) ((rd_T38 l0 x13_1).f2).length c181_2) := (blk_cell BK182.out 2).trans rfl; have hfz46_0 := blk_frozen BK182.out 0; have hfz46_1 := blk_frozen BK182.out 1; have hfz46_2 := blk_frozen BK182.out 2)); try go_wp2_with (first | (go_at_call 38; (with_reducible refine (impl_personAt.calls k3 _ _ l0 (rdOf ByteArray.empty ((rd_T38 l0 x13_1).f2) x52_3) t187 _ ?side1 ?side2 A28.out).mono ?_); (case side1 => repeat (first | exact (Kd.C_below HR0.out HB.out) | (with_reducible refine Kd.C_alloc ?_ _) | (with_reducible refine Kd.C_drewN ?_ _) | (with_reducible refine Kd.C_drew ?_))); (case side2 => exact HC0.out); rintro e w45 ⟨rfl, hb⟩; have n0_ := Aside0.mk (blk_below (g := gb182) (o := .cells #[.string ((rd_T38 l0 x13_1).f0), .int .i64 ((rd_T38 l0 x13_1).f1), .slice (some ad186) ((rd_T38 l0 x13_1).f2).length c181_2] 38 (0, 0)) (by (with_reducible repeat (first | refine blk_drewN ?_ _ | refine blk_drew ?_ | refine blk_alloc ?_ _)); exact BK182.out) hb); have n1_ := Aside0.mk (below_step (by repeat (first | (with_reducible first | exact HB.out | apply below_alloc | apply pw_below_drewN | apply below_drew1 | refine below_set ?_ GE182.out) | exact HB.out)) hb); clear BK182; clear HB; have BK182 := n0_; have HB := n1_; clear n0_ n1_; (try clear hb); (try clear hb2); (try clear hk); (try clear hi); have p188 : 0 ≤ (t187 : Int) := of_decide_eq_true (by first | (with_reducible assumption) | assumption); have q188 : t187 < (l0.length : Int) := of_decide_eq_true (by first | (with_reducible assumption) | assumption); obtain ⟨ad188, A188_2, c188_2, e188, hx188_0, hx188_1, hx188_2, hl188_2, hi188_2⟩ := at_T38 HR0.out t187 p188 q188; obtain rfl : ad181 = ad188 := (by injection e188); replace hx188_0 := (HB.out.cell (World.block_lt_of_cell? w _ hx188_0)).trans hx188_0; replace hx188_1 := (HB.out.cell (World.block_lt_of_cell? w _ hx188_1)).trans hx188_1; replace hx188_2 := (HB.out.cell (World.block_lt_of_cell? w _ hx188_2)).trans hx188_2; have HR188_2 := Aside0.mk hi188_2; have HC188_2 := Aside0.mk hl188_2; clear hi188_2 hl188_2; replace p188 := eq_true p188; replace q188 := eq_true q188; have hcz46_0 : w45.cell? ⟨gb182, 0, none⟩ = some (.string ((rd_T38 l0 x13_1).f0)) := (blk_cell BK182.out 0).trans rfl; have hcz46_1 : w45.cell? ⟨gb182, 1, none⟩ = some (.int .i64 ((rd_T38 l0 x13_1).f1)) := (blk_cell BK182.out 1).trans rfl; have hcz46_2 : w45.cell? ⟨gb182, 2, none⟩ = some (.slice (some ad186) ((rd_T38 l0 x13_1).f2).length c181_2) := (blk_cell BK182.out 2).trans rfl; have hfz46_0 := blk_frozen BK182.out 0; have hfz46_1 := blk_frozen BK182.out 1; have hfz46_2 := blk_frozen BK182.out 2)))
                                        go_roundg k3
                                        case measure => have := HK1.out; have := HJ5.out; have := HK3.out; omega
                                        case rel => exact ⟨(wrap64 (x52_3 + 1)), (by first | rfl | (simp; done) | (simp [*]; done)), H', ⟨by have := HK1.out; have := HJ5.out; have := HK3.out; omega⟩, ⟨by (with_reducible repeat (first | refine blk_drewN ?_ _ | refine blk_drew ?_ | refine blk_alloc ?_ _)); exact BK182.out⟩, ⟨by repeat (first | (with_reducible first | exact HB.out | apply below_alloc | apply pw_below_drewN | apply below_drew1 | refine below_set ?_ GE182.out) | exact HB.out)⟩⟩
                                  · rw [if_neg c32] at H
                                    exact absurd H (by simp)
                                · rw [if_neg c31] at H
                                  exact absurd H (by simp)
                            · rw [if_neg c27] at H
                              exact absurd H (by simp)
                          · rw [if_neg c26] at H
                            exact absurd H (by simp)
                        · rw [if_neg c25] at H
                          have c25b0 : decide (x52_3 < (((rd_T38 l0 x13_1).f2).length : Int)) = false := decide_eq_false c25
                          clear c25
                          have H' := Aside0.mk H
                          clear H
                          go_wp2
                          repeat (go_quiet (fail); try go_wp2)
                          go_roundg k3
                          case measure => have := HK1.out; have := HJ5.out; have := HK3.out; omega
                          case rel => exact ⟨(wrap64 (x13_1 + 1)), (by first | rfl | (simp; done) | (simp [*]; done)), H', ⟨by have := HK1.out; have := HJ5.out; have := HK3.out; omega⟩, ⟨by repeat (first | (with_reducible first | exact HB.out | apply below_alloc | apply pw_below_drewN | apply below_drew1 | refine below_set ?_ GE182.out) | exact HB.out)⟩⟩
            · rw [if_neg c5] at H
              exact absurd H (by simp)
          · rw [if_neg c4] at H
            exact absurd H (by simp)
        · rw [if_neg c3] at H
          have c3b0 : decide (x13_1 < (l0.length : Int)) = false := decide_eq_false c3
          clear c3
          obtain rfl := Option.some.inj H
          go_wp2
          repeat (go_quiet (fail); try go_wp2)
          go_ret
          exact ⟨by first | rfl | (simp [errW_none, errW_some] <;> rfl) | (simp [*, errW_none, errW_some] <;> rfl), by repeat (first | (with_reducible first | exact HB.out | apply below_alloc | apply pw_below_drewN | apply below_drew1) | exact HB.out)⟩

end Go.Proofs.Ytfjnjcefcoboaaa.P

-- printed by a program of this session out of the translation
namespace Go.Proofs.Ytfjnjcefcoboaaa.P
open Go.RowKit Go.Proofs.YtfjnjcefcoboaaaW.PrintWords Go.Proofs.YtfjnjcefcoboaaaW.PrintLast Go.Proofs.YtfjnjcefcoboaaaW.PrintMore
attribute [local go_sem] max2_int min2_int max_two min_two max_three min_three max_four min_four   -- for this text's walks alone
set_option linter.unusedVariables false
set_option linter.unusedSimpArgs false

/-! ### impl_personsCode_1: function 64 -/
def impl_personsCode_1.f (k : Nat) (a0 : ByteArray) (l1_0 : List (S38)) : Option (Bool) := (impl_personAt.f k l1_0 a0).bind fun t191 => (some (decide (t191 < 0)))
theorem impl_personsCode_1.mono : ∀ a0 a1 k, LeO (impl_personsCode_1.f k a0 a1) (impl_personsCode_1.f (k + 1) a0 a1) := by
  intro a0 a1 k
  unfold impl_personsCode_1.f
  repeat' first
      | (with_reducible exact impl_personAt.mono _ _ _)
      | (with_reducible exact LeO.refl _)
      | (with_reducible exact LeO.none _)
      | (with_reducible refine LeO.ite ?_ ?_)
      | (with_reducible refine LeO.bind ?_ (fun _ => ?_))
      | exact impl_personAt.mono _ _ _
      | exact LeO.none _
      | refine LeO.ite ?_ ?_
      | refine LeO.bind ?_ (fun _ => ?_)
set_option maxHeartbeats 8000000 in
set_option maxRecDepth 100000 in
theorem impl_personsCode_1.calls (k : Nat) (a0 : ByteArray) (adp1 : Addr) (l1_0 : List (S38)) (r : Bool) (w : World) (hr1 : Kd.C (Kd.slice 38 k38) w (some adp1) 1 [l1_0]) (h : impl_personsCode_1.f k a0 l1_0 = some r) :
    Calls Try.prog 64 #[.string a0, .pointer (some adp1)] w fun e w' => e = .returned (.bool r) ∧ Below w.heap.size w w' := by
  have HR1 := Aside0.mk hr1
  clear hr1
  have HB := Aside0.mk (Below.refl w.heap.size w)
  have H : ((impl_personAt.f k l1_0 a0).bind fun t191 => (some (decide (t191 < 0)))) = some r := h
  clear h
  replace H := Option.bind_eq_some_iff.mp H
  obtain ⟨t191, A30, H⟩ := H
  replace H : (some (decide (t191 < 0))) = some r := H
  have A3 := Aside0.mk A30
  clear A30
  obtain rfl := Option.some.inj H
  have p190 : 0 ≤ (0 : Int) := (by omega)
  have q190 : 0 < ([l1_0].length : Int) := (by simp)
  obtain ⟨ad190, A190_0, c190_0, e190, hx190_0, hl190_0, hi190_0⟩ := at_L5 HR1.out 0 p190 q190
  (try simp only [rd_L5, rdOf, rd, getD_one] at hx190_0)
  (try simp only [rd_L5, rdOf, rd, getD_one] at hl190_0)
  (try simp only [rd_L5, rdOf, rd, getD_one] at hi190_0)
  obtain rfl : adp1 = ad190 := (by injection e190)
  have qi190 : (0 < [l1_0].length) = True := eq_true (by omega)
  (try rw [show ((0 : Int)).toNat = 0 from rfl] at hx190_0)
  (try rw [Addr.add_zero'] at hx190_0)
  have HR190_0 := Aside0.mk hi190_0
  have HC190_0 := Aside0.mk hl190_0
  clear hi190_0 hl190_0
  replace p190 := eq_true p190
  replace q190 := eq_true q190
  go_enter Try.func64, Try.ntmps64
  go_wp2_with (first | ((with_reducible refine gate_callee (f := 38) rfl ?_); refine goesL_ (some 6) rfl rfl Try.func38 (by kernel_rfl) rfl #[.slice A190_0 l1_0.length c190_0, .string a0] rfl (by (try simp only [List.map_toArray, List.map_cons, List.map_nil]); first | done | rfl | (simp only [List.length_drop, List.length_take]; rfl)) ?_; (with_reducible refine (impl_personAt.calls k _ _ l1_0 a0 t191 _ ?side1 ?side2 A3.out).mono ?_); (case side1 => repeat (first | exact HR190_0.out | (with_reducible refine Kd.C_alloc ?_ _) | (with_reducible refine Kd.C_drewN ?_ _) | (with_reducible refine Kd.C_drew ?_))); (case side2 => exact HC190_0.out); rintro e w4 ⟨rfl, hb⟩; refine ⟨_, rfl, ?_⟩; have n0_ := Aside0.mk (below_step (by repeat (first | (with_reducible first | exact HB.out | apply below_alloc | apply pw_below_drewN | apply below_drew1) | exact HB.out)) hb); clear HB; have HB := n0_; clear n0_; (try clear hb); (try clear hb2); (try clear hk); (try clear hi)))
  go_ret
  exact ⟨by first | rfl | (simp [errW_none, errW_some] <;> rfl) | (simp [*, errW_none, errW_some] <;> rfl), by repeat (first | (with_reducible first | exact HB.out | apply below_alloc | apply pw_below_drewN | apply below_drew1) | exact HB.out)⟩

end Go.Proofs.Ytfjnjcefcoboaaa.P

-- printed by a program of this session out of the translation
namespace Go.Proofs.Ytfjnjcefcoboaaa.P
open Go.RowKit Go.Proofs.YtfjnjcefcoboaaaW.PrintWords Go.Proofs.YtfjnjcefcoboaaaW.PrintLast Go.Proofs.YtfjnjcefcoboaaaW.PrintMore
attribute [local go_sem] max2_int min2_int max_two min_two max_three min_three max_four min_four   -- for this text's walks alone
set_option linter.unusedVariables false
set_option linter.unusedSimpArgs false

/-! ### slices_IndexFunc_string_string_at_impl_personsCode_1: function 84 -/
def slices_IndexFunc_string_string_at_impl_personsCode_1.l0 : Nat → List ByteArray → Int → Int → List (S38) → Option (Int)
  | 0, _, _, _, _ => none
  | k + 1, x0, x7, x8, x800002000 => if x8 < x7 then (if 0 ≤ x8 then (if x8 < (x0.length : Int) then ((impl_personsCode_1.f k (rdOf ByteArray.empty x0 x8) x800002000).bind fun t193 => (if t193 = true then (some x8) else (slices_IndexFunc_string_string_at_impl_personsCode_1.l0 k x0 x7 (wrap64 (x8 + 1)) x800002000))) else (none)) else (none)) else (some (-1))
def slices_IndexFunc_string_string_at_impl_personsCode_1.f (k : Nat) (l0 : List ByteArray) (l1_0 : List (S38)) : Option (Int) := slices_IndexFunc_string_string_at_impl_personsCode_1.l0 k l0 (l0.length : Int) 0 l1_0
theorem slices_IndexFunc_string_string_at_impl_personsCode_1.mono_l : ∀ k, (∀ y0 y1 y2 y3, LeO (slices_IndexFunc_string_string_at_impl_personsCode_1.l0 k y0 y1 y2 y3) (slices_IndexFunc_string_string_at_impl_personsCode_1.l0 (k + 1) y0 y1 y2 y3))
  | 0 => fun _ _ _ _ r h => by simp [slices_IndexFunc_string_string_at_impl_personsCode_1.l0] at h
  | k + 1 => by
    have ih0 := slices_IndexFunc_string_string_at_impl_personsCode_1.mono_l k
    · intro y0 y1 y2 y3
      unfold slices_IndexFunc_string_string_at_impl_personsCode_1.l0
      repeat' first
      | (with_reducible exact ih0 _ _ _ _)
      | (with_reducible exact impl_personsCode_1.mono _ _ _)
      | (with_reducible exact LeO.refl _)
      | (with_reducible exact LeO.none _)
      | (with_reducible refine LeO.ite ?_ ?_)
      | (with_reducible refine LeO.bind ?_ (fun _ => ?_))
      | exact ih0 _ _ _ _
      | exact impl_personsCode_1.mono _ _ _
      | exact LeO.none _
      | refine LeO.ite ?_ ?_
      | refine LeO.bind ?_ (fun _ => ?_)
theorem slices_IndexFunc_string_string_at_impl_personsCode_1.mono : ∀ a0 a1 k, LeO (slices_IndexFunc_string_string_at_impl_personsCode_1.f k a0 a1) (slices_IndexFunc_string_string_at_impl_personsCode_1.f (k + 1) a0 a1) := by
  intro a0 a1 k
  have ih0 := slices_IndexFunc_string_string_at_impl_personsCode_1.mono_l k
  unfold slices_IndexFunc_string_string_at_impl_personsCode_1.f
  repeat' first
      | (with_reducible exact ih0 _ _ _ _)
      | (with_reducible exact impl_personsCode_1.mono _ _ _)
      | (with_reducible exact LeO.refl _)
      | (with_reducible exact LeO.none _)
      | (with_reducible refine LeO.ite ?_ ?_)
      | (with_reducible refine LeO.bind ?_ (fun _ => ?_))
      | exact ih0 _ _ _ _
      | exact impl_personsCode_1.mono _ _ _
      | exact LeO.none _
      | refine LeO.ite ?_ ?_
      | refine LeO.bind ?_ (fun _ => ?_)
set_option maxHeartbeats 8000000 in
set_option maxRecDepth 100000 in
theorem slices_IndexFunc_string_string_at_impl_personsCode_1.calls (k : Nat) (A0 : Option Addr) (c0 : Nat) (l0 : List ByteArray) (adp1 : Addr) (l1_0 : List (S38)) (r : Int) (w : World) (hr0 : Kd.C Kd.string w A0 l0.length l0) (hc0 : l0.length ≤ c0) (hr1 : Kd.C (Kd.slice 38 k38) w (some adp1) 1 [l1_0]) (h : slices_IndexFunc_string_string_at_impl_personsCode_1.f k l0 l1_0 = some r) :
    Calls Try.prog 84 #[.slice A0 l0.length c0, .func (.func 64) #[] #[.pointer (some adp1)]] w fun e w' => e = .returned (.int .i64 r) ∧ Below w.heap.size w w' := by
  have eg64 : ∀ args w, (callFunc 64 args).run Try.prog w = .ok (.enter 64 args) w := enters_of Try.func64 (by kernel_rfl) rfl
  have HR0 := Aside0.mk hr0
  have HC0 := Aside0.mk hc0
  clear hr0 hc0
  have HR1 := Aside0.mk hr1
  clear hr1
  have HB := Aside0.mk (Below.refl w.heap.size w)
  have H : (slices_IndexFunc_string_string_at_impl_personsCode_1.l0 k l0 (l0.length : Int) 0 l1_0) = some r := h
  clear h
  have H' := Aside0.mk H
  clear H
  go_enter Try.func84, Try.ntmps84
  go_wp2
  go_loopg [8] k (fun kq v8 w' => ∃ (x8_1 : Int), v8 = .int .i64 x8_1 ∧ Aside0 (slices_IndexFunc_string_string_at_impl_personsCode_1.l0 kq l0 (l0.length : Int) x8_1 l1_0 = some r) ∧ Aside0 (kq ≤ k) ∧ Aside0 (Below w.heap.size w w'))
  case atStart => exact ⟨(0), (by first | rfl | (simp; done) | (simp [*]; done)), H', ⟨Nat.le_refl _⟩, ⟨by repeat (first | (with_reducible first | exact HB.out | apply below_alloc | apply pw_below_drewN | apply below_drew1) | exact HB.out)⟩⟩
  case round =>
    clear H'
    try clear p2
    obtain ⟨x8_1, rfl, HA, HK1, HB⟩ := hrel
    cases gk with
    | zero => exact absurd HA.out (by simp [slices_IndexFunc_string_string_at_impl_personsCode_1.l0])
    | succ k1 =>
      have H := HA.out
      clear HA
      simp only [slices_IndexFunc_string_string_at_impl_personsCode_1.l0] at H
      by_cases c3 : x8_1 < (l0.length : Int)
      · rw [if_pos c3] at H
        have c3b0 : decide (x8_1 < (l0.length : Int)) = true := decide_eq_true c3
        clear c3
        by_cases c4 : 0 ≤ x8_1
        · rw [if_pos c4] at H
          have c4b0 : decide (0 ≤ x8_1) = true := decide_eq_true c4
          clear c4
          by_cases c5 : x8_1 < (l0.length : Int)
          · rw [if_pos c5] at H
            have c5b0 : decide (x8_1 < (l0.length : Int)) = true := decide_eq_true c5
            clear c5
            replace H := Option.bind_eq_some_iff.mp H
            obtain ⟨t193, A60, H⟩ := H
            replace H : (if t193 = true then (some x8_1) else (slices_IndexFunc_string_string_at_impl_personsCode_1.l0 k1 l0 (l0.length : Int) (wrap64 (x8_1 + 1)) l1_0)) = some r := H
            have A6 := Aside0.mk A60
            clear A60
            by_cases c7 : t193 = true
            · subst c7
              have H1 : (some x8_1) = some r := by rw [if_pos rfl] at H; exact H
              clear H
              have H := H1
              clear H1
              obtain rfl := Option.some.inj H
              have p192 : 0 ≤ (x8_1 : Int) := of_decide_eq_true (by first | (with_reducible assumption) | assumption)
              have q192 : x8_1 < (l0.length : Int) := of_decide_eq_true (by first | (with_reducible assumption) | assumption)
              obtain ⟨ad192, e192, hx192_0⟩ := Kd.at_string HR0.out x8_1 p192 q192
              cases e192
              replace hx192_0 := (HB.out.cell (World.block_lt_of_cell? w _ hx192_0)).trans hx192_0
              replace p192 := eq_true p192
              replace q192 := eq_true q192
              go_wp2_with (first | (go_at_call 64; (with_reducible refine (impl_personsCode_1.calls k1 (rdOf ByteArray.empty l0 x8_1) _ l1_0 true _ ?side1 A6.out).mono ?_); (case side1 => repeat (first | exact (Kd.C_below HR1.out HB.out) | (with_reducible refine Kd.C_alloc ?_ _) | (with_reducible refine Kd.C_drewN ?_ _) | (with_reducible refine Kd.C_drew ?_))); rintro e w8 ⟨rfl, hb⟩; have n0_ := Aside0.mk (below_step (by repeat (first | (with_reducible first | exact HB.out | apply below_alloc | apply pw_below_drewN | apply below_drew1) | exact HB.out)) hb); clear HB; have HB := n0_; clear n0_; (try clear hb); (try clear hb2); (try clear hk); (try clear hi)))
              go_ret
              exact ⟨by first | rfl | (simp [errW_none, errW_some] <;> rfl) | (simp [*, errW_none, errW_some] <;> rfl), by repeat (first | (with_reducible first | exact HB.out | apply below_alloc | apply pw_below_drewN | apply below_drew1) | exact HB.out)⟩
            · replace c7 := Bool.eq_false_iff.mpr c7
              subst c7
              have H1 : (slices_IndexFunc_string_string_at_impl_personsCode_1.l0 k1 l0 (l0.length : Int) (wrap64 (x8_1 + 1)) l1_0) = some r := by rw [if_neg (show ¬ (false = true) by decide)] at H; exact H
              clear H
              have H := H1
              clear H1
              have H' := Aside0.mk H
              clear H
              have p192 : 0 ≤ (x8_1 : Int) := of_decide_eq_true (by first | (with_reducible assumption) | assumption)
              have q192 : x8_1 < (l0.length : Int) := of_decide_eq_true (by first | (with_reducible assumption) | assumption)
              obtain ⟨ad192, e192, hx192_0⟩ := Kd.at_string HR0.out x8_1 p192 q192
              cases e192
              replace hx192_0 := (HB.out.cell (World.block_lt_of_cell? w _ hx192_0)).trans hx192_0
              replace p192 := eq_true p192
              replace q192 := eq_true q192
              go_wp2_with (first | (go_at_call 64; (with_reducible refine (impl_personsCode_1.calls k1 (rdOf ByteArray.empty l0 x8_1) _ l1_0 false _ ?side1 A6.out).mono ?_); (case side1 => repeat (first | exact (Kd.C_below HR1.out HB.out) | (with_reducible refine Kd.C_alloc ?_ _) | (with_reducible refine Kd.C_drewN ?_ _) | (with_reducible refine Kd.C_drew ?_))); rintro e w9 ⟨rfl, hb⟩; have n0_ := Aside0.mk (below_step (by repeat (first | (with_reducible first | exact HB.out | apply below_alloc | apply pw_below_drewN | apply below_drew1) | exact HB.out)) hb); clear HB; have HB := n0_; clear n0_; (try clear hb); (try clear hb2); (try clear hk); (try clear hi)))
              go_roundg k1
              case measure => have := HK1.out; omega
              case rel => exact ⟨(wrap64 (x8_1 + 1)), (by first | rfl | (simp; done) | (simp [*]; done)), H', ⟨by have := HK1.out; omega⟩, ⟨by repeat (first | (with_reducible first | exact HB.out | apply below_alloc | apply pw_below_drewN | apply below_drew1) | exact HB.out)⟩⟩
          · rw [if_neg c5] at H
            exact absurd H (by simp)
        · rw [if_neg c4] at H
          exact absurd H (by simp)
      · rw [if_neg c3] at H
        have c3b0 : decide (x8_1 < (l0.length : Int)) = false := decide_eq_false c3
        clear c3
        obtain rfl := Option.some.inj H
        go_wp2
        go_ret
        exact ⟨by first | rfl | (simp [errW_none, errW_some] <;> rfl) | (simp [*, errW_none, errW_some] <;> rfl), by repeat (first | (with_reducible first | exact HB.out | apply below_alloc | apply pw_below_drewN | apply below_drew1) | exact HB.out)⟩

end Go.Proofs.Ytfjnjcefcoboaaa.P

-- printed by a program of this session out of the translation
namespace Go.Proofs.Ytfjnjcefcoboaaa.P
open Go.RowKit Go.Proofs.YtfjnjcefcoboaaaW.PrintWords Go.Proofs.YtfjnjcefcoboaaaW.PrintLast Go.Proofs.YtfjnjcefcoboaaaW.PrintMore
attribute [local go_sem] max2_int min2_int max_two min_two max_three min_three max_four min_four   -- for this text's walks alone
set_option linter.unusedVariables false
set_option linter.unusedSimpArgs false

/-! ### slices_ContainsFunc_string_string_at_impl_personsCode_1: function 63 -/
def slices_ContainsFunc_string_string_at_impl_personsCode_1.f (k : Nat) (l0 : List ByteArray) (l1_0 : List (S38)) : Option (Bool) := (slices_IndexFunc_string_string_at_impl_personsCode_1.f k l0 l1_0).bind fun t194 => (some (decide (t194 ≥ 0)))
theorem slices_ContainsFunc_string_string_at_impl_personsCode_1.mono : ∀ a0 a1 k, LeO (slices_ContainsFunc_string_string_at_impl_personsCode_1.f k a0 a1) (slices_ContainsFunc_string_string_at_impl_personsCode_1.f (k + 1) a0 a1) := by
  intro a0 a1 k
  unfold slices_ContainsFunc_string_string_at_impl_personsCode_1.f
  repeat' first
      | (with_reducible exact slices_IndexFunc_string_string_at_impl_personsCode_1.mono _ _ _)
      | (with_reducible exact LeO.refl _)
      | (with_reducible exact LeO.none _)
      | (with_reducible refine LeO.ite ?_ ?_)
      | (with_reducible refine LeO.bind ?_ (fun _ => ?_))
      | exact slices_IndexFunc_string_string_at_impl_personsCode_1.mono _ _ _
      | exact LeO.none _
      | refine LeO.ite ?_ ?_
      | refine LeO.bind ?_ (fun _ => ?_)
set_option maxHeartbeats 8000000 in
set_option maxRecDepth 100000 in
theorem slices_ContainsFunc_string_string_at_impl_personsCode_1.calls (k : Nat) (A0 : Option Addr) (c0 : Nat) (l0 : List ByteArray) (adp1 : Addr) (l1_0 : List (S38)) (r : Bool) (w : World) (hr0 : Kd.C Kd.string w A0 l0.length l0) (hc0 : l0.length ≤ c0) (hr1 : Kd.C (Kd.slice 38 k38) w (some adp1) 1 [l1_0]) (h : slices_ContainsFunc_string_string_at_impl_personsCode_1.f k l0 l1_0 = some r) :
    Calls Try.prog 63 #[.slice A0 l0.length c0, .func (.func 64) #[] #[.pointer (some adp1)]] w fun e w' => e = .returned (.bool r) ∧ Below w.heap.size w w' := by
  have HR0 := Aside0.mk hr0
  have HC0 := Aside0.mk hc0
  clear hr0 hc0
  have HR1 := Aside0.mk hr1
  clear hr1
  have HB := Aside0.mk (Below.refl w.heap.size w)
  have H : ((slices_IndexFunc_string_string_at_impl_personsCode_1.f k l0 l1_0).bind fun t194 => (some (decide (t194 ≥ 0)))) = some r := h
  clear h
  replace H := Option.bind_eq_some_iff.mp H
  obtain ⟨t194, A30, H⟩ := H
  replace H : (some (decide (t194 ≥ 0))) = some r := H
  have A3 := Aside0.mk A30
  clear A30
  obtain rfl := Option.some.inj H
  go_enter Try.func63, Try.ntmps63
  go_wp2_with (first | (go_at_call 84; (with_reducible refine (slices_IndexFunc_string_string_at_impl_personsCode_1.calls k _ _ l0 _ l1_0 t194 _ ?side1 ?side2 ?side3 A3.out).mono ?_); (case side1 => repeat (first | exact HR0.out | (with_reducible refine Kd.C_alloc ?_ _) | (with_reducible refine Kd.C_drewN ?_ _) | (with_reducible refine Kd.C_drew ?_))); (case side2 => exact HC0.out); (case side3 => repeat (first | exact HR1.out | (with_reducible refine Kd.C_alloc ?_ _) | (with_reducible refine Kd.C_drewN ?_ _) | (with_reducible refine Kd.C_drew ?_))); rintro e w4 ⟨rfl, hb⟩; have n0_ := Aside0.mk (below_step (by repeat (first | (with_reducible first | exact HB.out | apply below_alloc | apply pw_below_drewN | apply below_drew1) | exact HB.out)) hb); clear HB; have HB := n0_; clear n0_; (try clear hb); (try clear hb2); (try clear hk); (try clear hi)))
  go_ret
  exact ⟨by first | rfl | (simp [errW_none, errW_some] <;> rfl) | (simp [*, errW_none, errW_some] <;> rfl), by repeat (first | (with_reducible first | exact HB.out | apply below_alloc | apply pw_below_drewN | apply below_drew1) | exact HB.out)⟩

end Go.Proofs.Ytfjnjcefcoboaaa.P

-- printed by a program of this session out of the translation
namespace Go.Proofs.Ytfjnjcefcoboaaa.P
open Go.RowKit Go.Proofs.YtfjnjcefcoboaaaW.PrintWords Go.Proofs.YtfjnjcefcoboaaaW.PrintLast Go.Proofs.YtfjnjcefcoboaaaW.PrintMore
attribute [local go_sem] max2_int min2_int max_two min_two max_three min_three max_four min_four   -- for this text's walks alone
set_option linter.unusedVariables false
set_option linter.unusedSimpArgs false

/-! ### impl_personsCode: function 35 -/
def impl_personsCode.f (k : Nat) (l0 : List (S38)) (l1 : List ByteArray) : Option (Int) := (impl_ValidPersons.f k l0).bind fun t196 => (if t196 = true then ((slices_ContainsFunc_string_string_at_impl_personsCode_1.f k l1 l0).bind fun t197 => (if t197 = true then (some 3) else (some 0))) else (some 1))
theorem impl_personsCode.mono : ∀ a0 a1 k, LeO (impl_personsCode.f k a0 a1) (impl_personsCode.f (k + 1) a0 a1) := by
  intro a0 a1 k
  unfold impl_personsCode.f
  repeat' first
      | (with_reducible exact impl_ValidPersons.mono _ _)
      | (with_reducible exact slices_ContainsFunc_string_string_at_impl_personsCode_1.mono _ _ _)
      | (with_reducible exact LeO.refl _)
      | (with_reducible exact LeO.none _)
      | (with_reducible refine LeO.ite ?_ ?_)
      | (with_reducible refine LeO.bind ?_ (fun _ => ?_))
      | exact impl_ValidPersons.mono _ _
      | exact slices_ContainsFunc_string_string_at_impl_personsCode_1.mono _ _ _
      | exact LeO.none _
      | refine LeO.ite ?_ ?_
      | refine LeO.bind ?_ (fun _ => ?_)
set_option maxHeartbeats 8000000 in
set_option maxRecDepth 100000 in
theorem impl_personsCode.calls (k : Nat) (A0 : Option Addr) (c0 : Nat) (l0 : List (S38)) (A1 : Option Addr) (c1 : Nat) (l1 : List ByteArray) (r : Int) (w : World) (hr0 : Kd.C k38 w A0 l0.length l0) (hc0 : l0.length ≤ c0) (hr1 : Kd.C Kd.string w A1 l1.length l1) (hc1 : l1.length ≤ c1) (h : impl_personsCode.f k l0 l1 = some r) :
    Calls Try.prog 35 #[.slice A0 l0.length c0, .slice A1 l1.length c1] w fun e w' => e = .returned (.int .i64 r) ∧ Below w.heap.size w w' := by
  have HR0 := Aside0.mk hr0
  have HC0 := Aside0.mk hc0
  clear hr0 hc0
  have HR1 := Aside0.mk hr1
  have HC1 := Aside0.mk hc1
  clear hr1 hc1
  have HB := Aside0.mk (Below.refl w.heap.size w)
  have H : ((impl_ValidPersons.f k l0).bind fun t196 => (if t196 = true then ((slices_ContainsFunc_string_string_at_impl_personsCode_1.f k l1 l0).bind fun t197 => (if t197 = true then (some 3) else (some 0))) else (some 1))) = some r := h
  clear h
  replace H := Option.bind_eq_some_iff.mp H
  obtain ⟨t196, A30, H⟩ := H
  replace H : (if t196 = true then ((slices_ContainsFunc_string_string_at_impl_personsCode_1.f k l1 l0).bind fun t197 => (if t197 = true then (some 3) else (some 0))) else (some 1)) = some r := H
  have A3 := Aside0.mk A30
  clear A30
  by_cases c4 : t196 = true
  · subst c4
    have H1 : ((slices_ContainsFunc_string_string_at_impl_personsCode_1.f k l1 l0).bind fun t197 => (if t197 = true then (some 3) else (some 0))) = some r := by rw [if_pos rfl] at H; exact H
    clear H
    have H := H1
    clear H1
    replace H := Option.bind_eq_some_iff.mp H
    obtain ⟨t197, A50, H⟩ := H
    replace H : (if t197 = true then (some 3) else (some 0)) = some r := H
    have A5 := Aside0.mk A50
    clear A50
    by_cases c6 : t197 = true
    · subst c6
      have H1 : (some 3) = some r := by rw [if_pos rfl] at H; exact H
      clear H
      have H := H1
      clear H1
      obtain rfl := Option.some.inj H
      go_enter Try.func35, Try.ntmps35
      go_wp2_with (first | ((with_reducible refine gate_dst (N := 2) rfl ?_); refine box_event ?hg (N := 2) ?hd (cs := #[.slice A0 l0.length c0]) (t := 26) ?hr ?_; (case hd => rfl); (case hg => rfl); (case hr => first | (go_simp; done) | (go_simp; rfl)); intro gb195 hg w7 hbox hb; have n0_ := Aside0.mk (below_step (by repeat (first | (with_reducible first | exact HB.out | apply below_alloc | apply pw_below_drewN | apply below_drew1) | exact HB.out)) hb); have n1_ := Aside0.mk (hbox); have n2_ := Aside0.mk ((by rw [hg]; exact (below_size (by repeat (first | (with_reducible first | exact HB.out | apply below_alloc | apply pw_below_drewN | apply below_drew1) | exact HB.out))) : w.heap.size ≤ gb195)); have n3_ := Aside0.mk ((by rw [hg]; exact (below_size (by repeat (first | (with_reducible first | exact HB.out | apply below_alloc | apply pw_below_drewN | apply below_drew1) | exact HB.out))) : w.heap.size ≤ gb195)); clear HB; have HB := n0_; have BK195 := n1_; have GW195 := n2_; have GE195 := n3_; clear n0_ n1_ n2_ n3_; clear hb hbox hg; have hcz8_0 : w7.cell? ⟨gb195, 0, none⟩ = some (.slice A0 l0.length c0) := (blk_cell BK195.out 0).trans rfl; have hfz8_0 := blk_frozen BK195.out 0) | ((with_reducible refine gate_callee (f := 44) rfl ?_); refine goesL_ (some 7) rfl rfl Try.func44 (by kernel_rfl) rfl #[.slice A0 l0.length c0] rfl (by (try simp only [List.map_toArray, List.map_cons, List.map_nil]); first | done | rfl | (simp only [List.length_drop, List.length_take]; rfl)) ?_; (with_reducible refine (impl_ValidPersons.calls k _ _ l0 true _ ?side1 ?side2 A3.out).mono ?_); (case side1 => repeat (first | exact (Kd.C_below HR0.out HB.out) | (with_reducible refine Kd.C_alloc ?_ _) | (with_reducible refine Kd.C_drewN ?_ _) | (with_reducible refine Kd.C_drew ?_))); (case side2 => exact HC0.out); rintro e w9 ⟨rfl, hb⟩; refine ⟨_, rfl, ?_⟩; have n0_ := Aside0.mk (blk_below (g := gb195) (o := .cells #[.slice A0 l0.length c0] 26 (0, 0)) (by (with_reducible repeat (first | refine blk_drewN ?_ _ | refine blk_drew ?_ | refine blk_alloc ?_ _)); exact BK195.out) hb); have n1_ := Aside0.mk (below_step (by repeat (first | (with_reducible first | exact HB.out | apply below_alloc | apply pw_below_drewN | apply below_drew1 | refine below_set ?_ GE195.out) | exact HB.out)) hb); clear BK195; clear HB; have BK195 := n0_; have HB := n1_; clear n0_ n1_; (try clear hb); (try clear hb2); (try clear hk); (try clear hi)) | (go_at_call 63; (with_reducible refine (slices_ContainsFunc_string_string_at_impl_personsCode_1.calls k _ _ l1 _ l0 true _ ?side1 ?side2 ?side3 A5.out).mono ?_); (case side1 => repeat (first | exact (Kd.C_below HR1.out HB.out) | (with_reducible refine Kd.C_alloc ?_ _) | (with_reducible refine Kd.C_drewN ?_ _) | (with_reducible refine Kd.C_drew ?_))); (case side2 => exact HC1.out); (case side3 => refine Kd.C_of_block (cs := #[.slice A0 l0.length c0]) (t := 26) (by (with_reducible repeat (first | refine blk_drewN ?_ _ | refine blk_drew ?_ | refine blk_alloc ?_ _)); exact BK195.out) ?_ rfl; exact ⟨_, _, rfl, (by exact HC0.out), (by repeat (first | exact (Kd.C_below HR0.out HB.out) | (with_reducible refine Kd.C_alloc ?_ _) | (with_reducible refine Kd.C_drewN ?_ _) | (with_reducible refine Kd.C_drew ?_)))⟩); rintro e w10 ⟨rfl, hb⟩; have n0_ := Aside0.mk (blk_below (g := gb195) (o := .cells #[.slice A0 l0.length c0] 26 (0, 0)) (by (with_reducible repeat (first | refine blk_drewN ?_ _ | refine blk_drew ?_ | refine blk_alloc ?_ _)); exact BK195.out) hb); have n1_ := Aside0.mk (below_step (by repeat (first | (with_reducible first | exact HB.out | apply below_alloc | apply pw_below_drewN | apply below_drew1 | refine below_set ?_ GE195.out) | exact HB.out)) hb); clear BK195; clear HB; have BK195 := n0_; have HB := n1_; clear n0_ n1_; (try clear hb); (try clear hb2); (try clear hk); (try clear hi)))
      go_ret
      exact ⟨by first | rfl | (simp [errW_none, errW_some] <;> rfl) | (simp [*, errW_none, errW_some] <;> rfl), by repeat (first | (with_reducible first | exact HB.out | apply below_alloc | apply pw_below_drewN | apply below_drew1 | refine below_set ?_ GE195.out) | exact HB.out)⟩
    · replace c6 := Bool.eq_false_iff.mpr c6
      subst c6
      have H1 : (some 0) = some r := by rw [if_neg (show ¬ (false = true) by decide)] at H; exact H
      clear H
      have H := H1
      clear H1
      obtain rfl := Option.some.inj H
      go_enter Try.func35, Try.ntmps35
      go_wp2_with (first | ((with_reducible refine gate_dst (N := 2) rfl ?_); refine box_event ?hg (N := 2) ?hd (cs := #[.slice A0 l0.length c0]) (t := 26) ?hr ?_; (case hd => rfl); (case hg => rfl); (case hr => first | (go_simp; done) | (go_simp; rfl)); intro gb195 hg w11 hbox hb; have n0_ := Aside0.mk (below_step (by repeat (first | (with_reducible first | exact HB.out | apply below_alloc | apply pw_below_drewN | apply below_drew1) | exact HB.out)) hb); have n1_ := Aside0.mk (hbox); have n2_ := Aside0.mk ((by rw [hg]; exact (below_size (by repeat (first | (with_reducible first | exact HB.out | apply below_alloc | apply pw_below_drewN | apply below_drew1) | exact HB.out))) : w.heap.size ≤ gb195)); have n3_ := Aside0.mk ((by rw [hg]; exact (below_size (by repeat (first | (with_reducible first | exact HB.out | apply below_alloc | apply pw_below_drewN | apply below_drew1) | exact HB.out))) : w.heap.size ≤ gb195)); clear HB; have HB := n0_; have BK195 := n1_; have GW195 := n2_; have GE195 := n3_; clear n0_ n1_ n2_ n3_; clear hb hbox hg; have hcz12_0 : w11.cell? ⟨gb195, 0, none⟩ = some (.slice A0 l0.length c0) := (blk_cell BK195.out 0).trans rfl; have hfz12_0 := blk_frozen BK195.out 0) | ((with_reducible refine gate_callee (f := 44) rfl ?_); refine goesL_ (some 7) rfl rfl Try.func44 (by kernel_rfl) rfl #[.slice A0 l0.length c0] rfl (by (try simp only [List.map_toArray, List.map_cons, List.map_nil]); first | done | rfl | (simp only [List.length_drop, List.length_take]; rfl)) ?_; (with_reducible refine (impl_ValidPersons.calls k _ _ l0 true _ ?side1 ?side2 A3.out).mono ?_); (case side1 => repeat (first | exact (Kd.C_below HR0.out HB.out) | (with_reducible refine Kd.C_alloc ?_ _) | (with_reducible refine Kd.C_drewN ?_ _) | (with_reducible refine Kd.C_drew ?_))); (case side2 => exact HC0.out); rintro e w13 ⟨rfl, hb⟩; refine ⟨_, rfl, ?_⟩; have n0_ := Aside0.mk (blk_below (g := gb195) (o := .cells #[.slice A0 l0.length c0] 26 (0, 0)) (by (with_reducible repeat (first | refine blk_drewN ?_ _ | refine blk_drew ?_ | refine blk_alloc ?_ _)); exact BK195.out) hb); have n1_ := Aside0.mk (below_step (by repeat (first | (with_reducible first | exact HB.out | apply below_alloc | apply pw_below_drewN | apply below_drew1 | refine below_set ?_ GE195.out) | exact HB.out)) hb); clear BK195; clear HB; have BK195 := n0_; have HB := n1_; clear n0_ n1_; (try clear hb); (try clear hb2); (try clear hk); (try clear hi)) | (go_at_call 63; (with_reducible refine (slices_ContainsFunc_string_string_at_impl_personsCode_1.calls k _ _ l1 _ l0 false _ ?side1 ?side2 ?side3 A5.out).mono ?_); (case side1 => repeat (first | exact (Kd.C_below HR1.out HB.out) | (with_reducible refine Kd.C_alloc ?_ _) | (with_reducible refine Kd.C_drewN ?_ _) | (with_reducible refine Kd.C_drew ?_))); (case side2 => exact HC1.out); (case side3 => refine Kd.C_of_block (cs := #[.slice A0 l0.length c0]) (t := 26) (by (with_reducible repeat (first | refine blk_drewN ?_ _ | refine blk_drew ?_ | refine blk_alloc ?_ _)); exact BK195.out) ?_ rfl; exact ⟨_, _, rfl, (by exact HC0.out), (by repeat (first | exact (Kd.C_below HR0.out HB.out) | (with_reducible refine Kd.C_alloc ?_ _) | (with_reducible refine Kd.C_drewN ?_ _) | (with_reducible refine Kd.C_drew ?_)))⟩); rintro e w14 ⟨rfl, hb⟩; have n0_ := Aside0.mk (blk_below (g := gb195) (o := .cells #[.slice A0 l0.length c0] 26 (0, 0)) (by (with_reducible repeat (first | refine blk_drewN ?_ _ | refine blk_drew ?_ | refine blk_alloc ?_ _)); exact BK195.out) hb); have n1_ := Aside0.mk (below_step (by repeat (first | (with_reducible first | exact HB.out | apply below_alloc | apply pw_below_drewN | apply below_drew1 | refine below_set ?_ GE195.out) | exact HB.out)) hb); clear BK195; clear HB; have BK195 := n0_; have HB := n1_; clear n0_ n1_; (try clear hb); (try clear hb2); (try clear hk); (try clear hi)))
      go_ret
      exact ⟨by first | rfl | (simp [errW_none, errW_some] <;> rfl) | (simp [*, errW_none, errW_some] <;> rfl), by repeat (first | (with_reducible first | exact HB.out | apply below_alloc | apply pw_below_drewN | apply below_drew1 | refine below_set ?_ GE195.out) | exact HB.out)⟩
  · replace c4 := Bool.eq_false_iff.mpr c4
    subst c4
    have H1 : (some 1) = some r := by rw [if_neg (show ¬ (false = true) by decide)] at H; exact H
    clear H
    have H := H1
    clear H1
    obtain rfl := Option.some.inj H
    go_enter Try.func35, Try.ntmps35
    go_wp2_with (first | ((with_reducible refine gate_dst (N := 2) rfl ?_); refine box_event ?hg (N := 2) ?hd (cs := #[.slice A0 l0.length c0]) (t := 26) ?hr ?_; (case hd => rfl); (case hg => rfl); (case hr => first | (go_simp; done) | (go_simp; rfl)); intro gb195 hg w15 hbox hb; have n0_ := Aside0.mk (below_step (by repeat (first | (with_reducible first | exact HB.out | apply below_alloc | apply pw_below_drewN | apply below_drew1) | exact HB.out)) hb); have n1_ := Aside0.mk (hbox); have n2_ := Aside0.mk ((by rw [hg]; exact (below_size (by repeat (first | (with_reducible first | exact HB.out | apply below_alloc | apply pw_below_drewN | apply below_drew1) | exact HB.out))) : w.heap.size ≤ gb195)); have n3_ := Aside0.mk ((by rw [hg]; exact (below_size (by repeat (first | (with_reducible first | exact HB.out | apply below_alloc | apply pw_below_drewN | apply below_drew1) | exact HB.out))) : w.heap.size ≤ gb195)); clear HB; have HB := n0_; have BK195 := n1_; have GW195 := n2_; have GE195 := n3_; clear n0_ n1_ n2_ n3_; clear hb hbox hg; have hcz16_0 : w15.cell? ⟨gb195, 0, none⟩ = some (.slice A0 l0.length c0) := (blk_cell BK195.out 0).trans rfl; have hfz16_0 := blk_frozen BK195.out 0) | ((with_reducible refine gate_callee (f := 44) rfl ?_); refine goesL_ (some 7) rfl rfl Try.func44 (by kernel_rfl) rfl #[.slice A0 l0.length c0] rfl (by (try simp only [List.map_toArray, List.map_cons, List.map_nil]); first | done | rfl | (simp only [List.length_drop, List.length_take]; rfl)) ?_; (with_reducible refine (impl_ValidPersons.calls k _ _ l0 false _ ?side1 ?side2 A3.out).mono ?_); (case side1 => repeat (first | exact (Kd.C_below HR0.out HB.out) | (with_reducible refine Kd.C_alloc ?_ _) | (with_reducible refine Kd.C_drewN ?_ _) | (with_reducible refine Kd.C_drew ?_))); (case side2 => exact HC0.out); rintro e w17 ⟨rfl, hb⟩; refine ⟨_, rfl, ?_⟩; have n0_ := Aside0.mk (blk_below (g := gb195) (o := .cells #[.slice A0 l0.length c0] 26 (0, 0)) (by (with_reducible repeat (first | refine blk_drewN ?_ _ | refine blk_drew ?_ | refine blk_alloc ?_ _)); exact BK195.out) hb); have n1_ := Aside0.mk (below_step (by repeat (first | (with_reducible first | exact HB.out | apply below_alloc | apply pw_below_drewN | apply below_drew1 | refine below_set ?_ GE195.out) | exact HB.out)) hb); clear BK195; clear HB; have BK195 := n0_; have HB := n1_; clear n0_ n1_; (try clear hb); (try clear hb2); (try clear hk); (try clear hi)))
    go_ret
    exact ⟨by first | rfl | (simp [errW_none, errW_some] <;> rfl) | (simp [*, errW_none, errW_some] <;> rfl), by repeat (first | (with_reducible first | exact HB.out | apply below_alloc | apply pw_below_drewN | apply below_drew1 | refine below_set ?_ GE195.out) | exact HB.out)⟩

end Go.Proofs.Ytfjnjcefcoboaaa.P

-- printed by a program of this session out of the translation
namespace Go.Proofs.Ytfjnjcefcoboaaa.P
open Go.RowKit Go.Proofs.YtfjnjcefcoboaaaW.PrintWords Go.Proofs.YtfjnjcefcoboaaaW.PrintLast Go.Proofs.YtfjnjcefcoboaaaW.PrintMore
attribute [local go_sem] max2_int min2_int max_two min_two max_three min_three max_four min_four   -- for this text's walks alone
set_option linter.unusedVariables false
set_option linter.unusedSimpArgs false

/-! ### slices_Index_string_string: function 65 -/
def slices_Index_string_string.l0 : Nat → List ByteArray → ByteArray → Int → Int → Option (Int)
  | 0, _, _, _, _ => none
  | k + 1, x0, x1, x7, x8 => if x8 < x7 then (if 0 ≤ x8 then (if x8 < (x0.length : Int) then (if x1.toList = (rdOf ByteArray.empty x0 x8).toList then (some x8) else (slices_Index_string_string.l0 k x0 x1 x7 (wrap64 (x8 + 1)))) else (none)) else (none)) else (some (-1))
def slices_Index_string_string.f (k : Nat) (l0 : List ByteArray) (a1 : ByteArray) : Option (Int) := slices_Index_string_string.l0 k l0 a1 (l0.length : Int) 0
theorem slices_Index_string_string.mono_l : ∀ k, (∀ y0 y1 y2 y3, LeO (slices_Index_string_string.l0 k y0 y1 y2 y3) (slices_Index_string_string.l0 (k + 1) y0 y1 y2 y3))
  | 0 => fun _ _ _ _ r h => by simp [slices_Index_string_string.l0] at h
  | k + 1 => by
    have ih0 := slices_Index_string_string.mono_l k
    · intro y0 y1 y2 y3
      unfold slices_Index_string_string.l0
      repeat' first
      | (with_reducible exact ih0 _ _ _ _)
      | (with_reducible exact LeO.refl _)
      | (with_reducible exact LeO.none _)
      | (with_reducible refine LeO.ite ?_ ?_)
      | (with_reducible refine LeO.bind ?_ (fun _ => ?_))
      | exact ih0 _ _ _ _
      | exact LeO.none _
      | refine LeO.ite ?_ ?_
      | refine LeO.bind ?_ (fun _ => ?_)
theorem slices_Index_string_string.mono : ∀ a0 a1 k, LeO (slices_Index_string_string.f k a0 a1) (slices_Index_string_string.f (k + 1) a0 a1) := by
  intro a0 a1 k
  have ih0 := slices_Index_string_string.mono_l k
  unfold slices_Index_string_string.f
  repeat' first
      | (with_reducible exact ih0 _ _ _ _)
      | (with_reducible exact LeO.refl _)
      | (with_reducible exact LeO.none _)
      | (with_reducible refine LeO.ite ?_ ?_)
      | (with_reducible refine LeO.bind ?_ (fun _ => ?_))
      | exact ih0 _ _ _ _
      | exact LeO.none _
      | refine LeO.ite ?_ ?_
      | refine LeO.bind ?_ (fun _ => ?_)
set_option maxHeartbeats 8000000 in
set_option maxRecDepth 100000 in
theorem slices_Index_string_string.calls (k : Nat) (A0 : Option Addr) (c0 : Nat) (l0 : List ByteArray) (a1 : ByteArray) (r : Int) (w : World) (hr0 : Kd.C Kd.string w A0 l0.length l0) (hc0 : l0.length ≤ c0) (h : slices_Index_string_string.f k l0 a1 = some r) :
    Calls Try.prog 65 #[.slice A0 l0.length c0, .string a1] w fun e w' => e = .returned (.int .i64 r) ∧ Drawn0 w w' := by
  have HR0 := Aside0.mk hr0
  have HC0 := Aside0.mk hc0
  clear hr0 hc0
  have H : (slices_Index_string_string.l0 k l0 a1 (l0.length : Int) 0) = some r := h
  clear h
  have H' := Aside0.mk H
  clear H
  go_enter Try.func65, Try.ntmps65
  go_wp2
  go_loopg [8] k (fun kq v8 w' => ∃ (x8_1 : Int), v8 = .int .i64 x8_1 ∧ Aside0 (slices_Index_string_string.l0 kq l0 a1 (l0.length : Int) x8_1 = some r) ∧ Aside0 (kq ≤ k) ∧ Drawn0 w w')
  case atStart => exact ⟨(0), (by first | rfl | (simp; done) | (simp [*]; done)), H', ⟨Nat.le_refl _⟩, by repeat (first | exact Drawn0.refl _ | apply Drawn0.step)⟩
  case round =>
    clear H'
    try clear p2
    obtain ⟨x8_1, rfl, HA, HK1, ⟨m1, rfl⟩⟩ := hrel
    cases gk with
    | zero => exact absurd HA.out (by simp [slices_Index_string_string.l0])
    | succ k1 =>
      have H := HA.out
      clear HA
      simp only [slices_Index_string_string.l0] at H
      by_cases c3 : x8_1 < (l0.length : Int)
      · rw [if_pos c3] at H
        have c3b0 : decide (x8_1 < (l0.length : Int)) = true := decide_eq_true c3
        clear c3
        by_cases c4 : 0 ≤ x8_1
        · rw [if_pos c4] at H
          have c4b0 : decide (0 ≤ x8_1) = true := decide_eq_true c4
          clear c4
          by_cases c5 : x8_1 < (l0.length : Int)
          · rw [if_pos c5] at H
            have c5b0 : decide (x8_1 < (l0.length : Int)) = true := decide_eq_true c5
            clear c5
            by_cases c6 : a1.toList = (rdOf ByteArray.empty l0 x8_1).toList
            · rw [if_pos c6] at H
              have c6b0 : (a1.toList == (rdOf ByteArray.empty l0 x8_1).toList) = true := beq_iff_eq.mpr c6
              have c6b1 : (a1.toList != (rdOf ByteArray.empty l0 x8_1).toList) = false := bne_eq_false_iff_eq.mpr c6
              clear c6
              obtain rfl := Option.some.inj H
              have p246 : 0 ≤ (x8_1 : Int) := of_decide_eq_true (by first | (with_reducible assumption) | assumption)
              have q246 : x8_1 < (l0.length : Int) := of_decide_eq_true (by first | (with_reducible assumption) | assumption)
              obtain ⟨ad246, e246, hx246_0⟩ := Kd.at_string HR0.out x8_1 p246 q246
              cases e246
              replace p246 := eq_true p246
              replace q246 := eq_true q246
              go_wp2
              go_ret
              exact ⟨by first | rfl | (simp; done) | (simp [*]; done), by repeat (first | exact Drawn0.refl _ | apply Drawn0.step)⟩
            · rw [if_neg c6] at H
              have c6b0 : (a1.toList == (rdOf ByteArray.empty l0 x8_1).toList) = false := beq_eq_false_iff_ne.mpr c6
              have c6b1 : (a1.toList != (rdOf ByteArray.empty l0 x8_1).toList) = true := bne_iff_ne.mpr c6
              have H' := Aside0.mk H
              clear H
              have p246 : 0 ≤ (x8_1 : Int) := of_decide_eq_true (by first | (with_reducible assumption) | assumption)
              have q246 : x8_1 < (l0.length : Int) := of_decide_eq_true (by first | (with_reducible assumption) | assumption)
              obtain ⟨ad246, e246, hx246_0⟩ := Kd.at_string HR0.out x8_1 p246 q246
              cases e246
              replace p246 := eq_true p246
              replace q246 := eq_true q246
              go_wp2
              go_roundg k1
              case measure => have := HK1.out; omega
              case rel => exact ⟨(wrap64 (x8_1 + 1)), (by first | rfl | (simp; done) | (simp [*]; done)), H', ⟨by have := HK1.out; omega⟩, by repeat (first | exact Drawn0.refl _ | apply Drawn0.step)⟩
          · rw [if_neg c5] at H
            exact absurd H (by simp)
        · rw [if_neg c4] at H
          exact absurd H (by simp)
      · rw [if_neg c3] at H
        have c3b0 : decide (x8_1 < (l0.length : Int)) = false := decide_eq_false c3
        clear c3
        obtain rfl := Option.some.inj H
        go_wp2
        go_ret
        exact ⟨by first | rfl | (simp; done) | (simp [*]; done), by repeat (first | exact Drawn0.refl _ | apply Drawn0.step)⟩

end Go.Proofs.Ytfjnjcefcoboaaa.P

-- printed by a program of this session out of the translation
namespace Go.Proofs.Ytfjnjcefcoboaaa.P
open Go.RowKit Go.Proofs.YtfjnjcefcoboaaaW.PrintWords Go.Proofs.YtfjnjcefcoboaaaW.PrintLast Go.Proofs.YtfjnjcefcoboaaaW.PrintMore
attribute [local go_sem] max2_int min2_int max_two min_two max_three min_three max_four min_four   -- for this text's walks alone
set_option linter.unusedVariables false
set_option linter.unusedSimpArgs false

/-! ### slices_Contains_string_string: function 37 -/
def slices_Contains_string_string.f (k : Nat) (l0 : List ByteArray) (a1 : ByteArray) : Option (Bool) := (slices_Index_string_string.f k l0 a1).bind fun t247 => (some (decide (t247 ≥ 0)))
theorem slices_Contains_string_string.mono : ∀ a0 a1 k, LeO (slices_Contains_string_string.f k a0 a1) (slices_Contains_string_string.f (k + 1) a0 a1) := by
  intro a0 a1 k
  unfold slices_Contains_string_string.f
  repeat' first
      | (with_reducible exact slices_Index_string_string.mono _ _ _)
      | (with_reducible exact LeO.refl _)
      | (with_reducible exact LeO.none _)
      | (with_reducible refine LeO.ite ?_ ?_)
      | (with_reducible refine LeO.bind ?_ (fun _ => ?_))
      | exact slices_Index_string_string.mono _ _ _
      | exact LeO.none _
      | refine LeO.ite ?_ ?_
      | refine LeO.bind ?_ (fun _ => ?_)
set_option maxHeartbeats 8000000 in
set_option maxRecDepth 100000 in
theorem slices_Contains_string_string.calls (k : Nat) (A0 : Option Addr) (c0 : Nat) (l0 : List ByteArray) (a1 : ByteArray) (r : Bool) (w : World) (hr0 : Kd.C Kd.string w A0 l0.length l0) (hc0 : l0.length ≤ c0) (h : slices_Contains_string_string.f k l0 a1 = some r) :
    Calls Try.prog 37 #[.slice A0 l0.length c0, .string a1] w fun e w' => e = .returned (.bool r) ∧ Drawn0 w w' := by
  have HR0 := Aside0.mk hr0
  have HC0 := Aside0.mk hc0
  clear hr0 hc0
  have H : ((slices_Index_string_string.f k l0 a1).bind fun t247 => (some (decide (t247 ≥ 0)))) = some r := h
  clear h
  replace H := Option.bind_eq_some_iff.mp H
  obtain ⟨t247, A30, H⟩ := H
  replace H : (some (decide (t247 ≥ 0))) = some r := H
  have A3 := Aside0.mk A30
  clear A30
  obtain rfl := Option.some.inj H
  go_enter Try.func37, Try.ntmps37
  go_wp2_with (first | ((with_reducible refine gate_callee (f := 65) rfl ?_); refine goesL_ (some 7) rfl rfl Try.func65 (by kernel_rfl) rfl #[.slice A0 l0.length c0, .string a1] rfl (by (try simp only [List.map_toArray, List.map_cons, List.map_nil]); first | done | rfl | (simp only [List.length_drop, List.length_take]; rfl)) ?_; (with_reducible refine (slices_Index_string_string.calls k _ _ l0 a1 t247 _ ?side1 ?side2 A3.out).mono ?_); (case side1 => repeat (first | exact HR0.out | (with_reducible refine Kd.C_alloc ?_ _) | (with_reducible refine Kd.C_drewN ?_ _) | (with_reducible refine Kd.C_drew ?_))); (case side2 => exact HC0.out); rintro e w' ⟨rfl, ⟨nd, rfl⟩⟩; refine ⟨_, rfl, ?_⟩))
  go_ret
  exact ⟨by first | rfl | (simp; done) | (simp [*]; done), by repeat (first | exact Drawn0.refl _ | apply Drawn0.step)⟩

end Go.Proofs.Ytfjnjcefcoboaaa.P

/- Words of this session's own: a map from strings to whole numbers that the call has made, as a list of pairs, the newest first. No condition. -/
namespace Go.Proofs.YtfjnjcefcoboaaaW.PrintWords
open Go.RowKit Go.Maps Go.WideElems Go.WideMaps
abbrev PMap := List (List UInt8 × Int)
def mget (m : PMap) (k : List UInt8) : Option Int := (m.find? (fun p => p.1 == k)).map (·.2)
def mdat : PMap → DataW Unit
  | [] => .map []
  | p :: m => (mdat m).put (.string p.1) (.lit (.int .i64 p.2))
theorem mdat_isMap : ∀ m : PMap, IsMap (mdat m)
  | [] => isMap_empty
  | _ :: m => (mdat_isMap m).put _ _
theorem mget_cons (p : List UInt8 × Int) (m : PMap) (k : List UInt8) : mget (p :: m) k = if p.1 = k then some p.2 else mget m k := by
  unfold mget
  by_cases h : p.1 = k
  · simp [h]
  · simp [h]
theorem mdat_at (m : PMap) (k : List UInt8) (z : DataW Unit) : (mdat m).atKey (.string k) z = match mget m k with | some v => .lit (.int .i64 v) | none => z := by
  induction m with
  | nil => rfl
  | cons p m ih =>
    rw [mget_cons]
    show ((mdat m).put _ _).atKey _ _ = _
    by_cases h : p.1 = k
    · rw [if_pos h, h, atKey_put_same (mdat_isMap m) (show WideAt.IsKeyLit (.string _) from trivial)]
    · rw [if_neg h, atKey_put_other (fun e => h (by injection e with e; exact e.symm)), ih]
theorem mdat_has (m : PMap) (k : List UInt8) : has (mdat m) (.string k) = (mget m k).isSome := by
  induction m with
  | nil => rfl
  | cons p m ih =>
    rw [mget_cons]
    show has ((mdat m).put _ _) _ = _
    by_cases h : p.1 = k
    · rw [if_pos h, h, has_put_same (mdat_isMap m) (show WideAt.IsKeyLit (.string _) from trivial)]; rfl
    · rw [if_neg h, has_put_other (fun e => h (by injection e with e; exact e.symm)), ih]
/-- Block b is a map from strings to whole numbers that holds m. -/
structure MapIs (P : Program) (K E : TypeId) (w : World) (b : Nat) (m : PMap) : Prop where mk :: (out : w.ownsMap P K (plainElem P E) b m.length (mdat m))
variable {P : Program} {K E : TypeId} {w : World} {b : Nat} {m : PMap}
theorem MapIs.made (P : Program) (K E : TypeId) (w : World) : MapIs P K E (w.alloc (.map #[] 0)) w.heap.size [] := ⟨World.ownsMap_made _ _ _ _⟩
theorem MapIs.lt (h : MapIs P K E w b m) : b < w.heap.size := h.out.lt
theorem MapIs.kept {w' : World} {row : Option Nat} (h : MapIs P K E w b m) (hg : w.grownBy w' row) (hne : some b ≠ row) : MapIs P K E w' b m := ⟨h.out.kept hg hne⟩
theorem MapIs.alloc (h : MapIs P K E w b m) (o : Obj) : MapIs P K E (w.alloc o) b m := ⟨h.out.alloc o⟩
theorem MapIs.below {w' : World} (h : MapIs P K E w b m) (hb : Below w.heap.size w w') : MapIs P K E w' b m := h.kept (grown_of_below hb none) (by simp)
theorem MapIs.drewN (h : MapIs P K E w b m) (n : Nat) : MapIs P K E (w.drewN n) b m := h.below (pw_below_drewN (Below.refl _ _) n)
section
variable {ops : Array Oper} {rest : List Oper} {o : Oper} {a : Act} {Q : Exit → Act → World → Prop}
theorem MapIs.look (h : MapIs P K E w b m) (hg : o.guard = none) (t : TypeId) (mo x : Operand) (hop : o.op = Op.lookup t mo x false) (hk : P.underlying K = some .string) (ht : P.underlying t = some (.map K E)) (he : P.underlying E = some (.int .i64))
    (hz : (zeroValue E).run P w = .ok (.int .i64 0) w) (hm : a.eval mo = .map (some b)) {s : ByteArray} (hs : s.size ≤ maxLen) (hx : a.eval x = .string s)
    (hK : wpList P ops Q rest (a.put o.dst (.int .i64 ((mget m s.data.toList).getD 0))) w) : wpList P ops Q (o :: rest) a w := by
  refine wpList_lookup_own_int w hg mo x t hop K E .i64 (string_keyed hk) ht he hz b _ _ hm h.out _ _ hx (keyOf_string_mk hk hs) ?_
  intro c hat _
  rw [mdat_at] at hat
  have hc : c = (mget m s.data.toList).getD 0 := by
    cases hq : mget m s.data.toList with
    | none => rw [hq] at hat; simpa using hat.symm
    | some v => rw [hq] at hat; simpa using hat.symm
  rw [hc]; exact hK
theorem MapIs.look_ok (h : MapIs P K E w b m) (hg : o.guard = none) (t : TypeId) (mo x : Operand) (hop : o.op = Op.lookup t mo x true) (hk : P.underlying K = some .string) (ht : P.underlying t = some (.map K E)) (he : P.underlying E = some (.int .i64))
    (hz : (zeroValue E).run P w = .ok (.int .i64 0) w) (hm : a.eval mo = .map (some b)) {s : ByteArray} (hs : s.size ≤ maxLen) (hx : a.eval x = .string s)
    (hK : wpList P ops Q rest (a.put o.dst (.tuple #[.int .i64 ((mget m s.data.toList).getD 0), .bool (mget m s.data.toList).isSome])) w) : wpList P ops Q (o :: rest) a w := by
  refine wpList_lookup_own_ok_int w hg mo x t hop K E .i64 (string_keyed hk) ht he hz b _ _ hm h.out _ _ hx (keyOf_string_mk hk hs) ?_
  intro c hat _
  rw [mdat_at] at hat
  have hc : c = (mget m s.data.toList).getD 0 := by
    cases hq : mget m s.data.toList with
    | none => rw [hq] at hat; simpa using hat.symm
    | some v => rw [hq] at hat; simpa using hat.symm
  rw [hc, mdat_has]; exact hK
theorem MapIs.store (h : MapIs P K E w b m) (hg : o.guard = none) (t : TypeId) (mo x v : Operand) (hop : o.op = Op.mapUpdate t mo x v) (hk : P.underlying K = some .string) (ht : P.underlying t = some (.map K E)) (he : P.underlying E = some (.int .i64))
    (hn : m.length < maxLen) (hm : a.eval mo = .map (some b)) {s : ByteArray} (hs : s.size ≤ maxLen) (hx : a.eval x = .string s) {n : Int} (hv : a.eval v = .int .i64 n) (hw : (Lit.int .i64 n).wf = true)
    (hK : ∀ w', MapIs P K E w' b ((s.data.toList, n) :: m) → w.grownBy w' (some b) → wpList P ops Q rest (a.put o.dst undef) w') : wpList P ops Q (o :: rest) a w := by
  refine wpList_mapUpdate_own w hg mo x v t hop K E (string_keyed hk) ht _ b _ _ hm h.out hn _ _ _ hx hv (keyOf_string_mk hk hs) _ [] (plainElem_int he hw) ?_
  intro w' h1 h2
  exact hK w' ⟨h1⟩ h2
end
end Go.Proofs.YtfjnjcefcoboaaaW.PrintWords

/- Words of this session's own, further, over a map from strings to whole numbers that the call has made: beside other things that it has made, and at operations of a region that draws its order. No condition. -/
namespace Go.Proofs.YtfjnjcefcoboaaaW.PrintWords
open Go.RowKit Go.Maps Go.WideElems Go.WideMaps
/-! ### beside other things that the call has made, and at operations of a region that draws -/
section
variable {P : Program} {K E : TypeId} {w W w1 : World} {b : Nat} {m : PMap}
theorem MapIs.drew (h : MapIs P K E w b m) : MapIs P K E w.drew b m := h.below (below_drew1 (Below.refl _ _))
theorem MapIs.ne_blk (h : MapIs P K E w b m) {g t : Nat} {cells : Array Value} {fr : Nat × Nat} (hb : w.heap[g]? = some (.cells cells t fr)) : b ≠ g := by
  rintro rfl
  obtain ⟨es, clock, h1, _⟩ := h.out
  rw [h1] at hb
  cases hb
theorem MapIs.setCell (h : MapIs P K E w b m) {a : Addr} (ha : b ≠ a.block) (u : Value) : MapIs P K E (w.setCell a u) b m := ⟨h.out.setCell ha u⟩
theorem MapIs.kept_row (h : MapIs P K E w b m) {v : Value} {e : Nat} (hty : ∀ k, v.ownBlock = some k → ∃ cells, w.heap[k]? = some (.cells cells e (0, 0))) (hg : w.grownBy w1 v.ownBlock) : MapIs P K E w1 b m :=
  h.kept hg fun he => by
    obtain ⟨cells, hc⟩ := hty b he.symm
    exact h.ne_blk hc rfl
theorem Q_overM {α : Type} {d : Kd α} {e : Nat} {base : Nat} {ok : Nat → Prop} {u : Value} {xs : List α} (h : d.Q e W base ok u xs) (hm : MapIs P K E W b m) (hg : W.grownBy w1 (some b)) : d.Q e w1 base ok u xs := by
  refine Kd.Q_mono (Kd.Q_move (Kd.Q_bound h) (fun k hk => hg.block k hk.2.2.1 (fun he => ?_))) (fun _ hk => hk.1)
  obtain ⟨_, _, _, q, hq, cells, hc⟩ := hk
  injection he with he
  subst he
  exact hm.ne_blk hc rfl
theorem R_overM {α : Type} {d : Kd α} {e : Nat} {base : Nat} {ok : Nat → Prop} {u : Value} {xs : List α} (h : d.R e W base ok u xs) (hm : MapIs P K E W b m) (hg : W.grownBy w1 (some b)) : d.R e w1 base ok u xs := by
  refine Kd.R_mono (Kd.R_move (Kd.R_bound h) (fun k hk => hg.block k hk.2.2.1 (fun he => ?_))) (fun _ hk => hk.1)
  obtain ⟨_, _, _, q, hq, cells, hc⟩ := hk
  injection he with he
  subst he
  exact hm.ne_blk hc rfl
theorem blk_overM {g t : Nat} {cells : Array Value} {fr : Nat × Nat} (h : W.heap[g]? = some (.cells cells t fr)) (hm : MapIs P K E W b m) (hg : W.grownBy w1 (some b)) : w1.heap[g]? = some (.cells cells t fr) :=
  blk_grown h hg (fun he => by injection he with he; exact hm.ne_blk h he.symm)
theorem below_overM {n : Nat} {w0 : World} (h : Below n w0 W) (hn : n ≤ W.heap.size) (hg : W.grownBy w1 (some b)) (hb : n ≤ b) : Below n w0 w1 := h.grown hg hn (fun j hj => by injection hj with hj; subst hj; exact hb)
variable {ops : Array Oper} {rest : List Oper} {o : Oper} {a : Act} {Q : Exit → Act → World → Prop} {Kc : Act → World → Prop}
theorem MapIs.look_run (h : MapIs P K E w b m) (t : TypeId) (mo x : Operand) (hop : o.op = Op.lookup t mo x false) (hk : P.underlying K = some .string) (ht : P.underlying t = some (.map K E)) (he : P.underlying E = some (.int .i64))
    (hz : (zeroValue E).run P w = .ok (.int .i64 0) w) (hm : a.eval mo = .map (some b)) {s : ByteArray} (hs : s.size ≤ maxLen) (hx : a.eval x = .string s) :
    (execOp a.eval o).run P w = .ok (.value (.int .i64 ((mget m s.data.toList).getD 0))) w := by
  obtain ⟨c, hrun, hat, _⟩ := h.out.lookup_int (string_keyed hk) ht he hz (keyOf_string_mk hk hs)
  rw [mdat_at] at hat
  have hc : c = (mget m s.data.toList).getD 0 := by
    cases hq : mget m s.data.toList with
    | none => rw [hq] at hat; simpa using hat.symm
    | some v => rw [hq] at hat; simpa using hat.symm
  subst hc
  simp [execOp, hop, hm, hx, hrun, Result.andThen]
theorem MapIs.look_instr (h : MapIs P K E w b m) (t : TypeId) (hk : P.underlying K = some .string) (ht : P.underlying t = some (.map K E)) (he : P.underlying E = some (.int .i64))
    (hz : (zeroValue E).run P w = .ok (.int .i64 0) w) {s : ByteArray} (hs : s.size ≤ maxLen) : (Instr.lookup t (.map (some b)) (.string s) false).run P w = .ok (.int .i64 ((mget m s.data.toList).getD 0)) w := by
  obtain ⟨c, hrun, hat, _⟩ := h.out.lookup_int (string_keyed hk) ht he hz (keyOf_string_mk hk hs)
  rw [mdat_at] at hat
  have hc : c = (mget m s.data.toList).getD 0 := by
    cases hq : mget m s.data.toList with
    | none => rw [hq] at hat; simpa using hat.symm
    | some v => rw [hq] at hat; simpa using hat.symm
  subst hc
  exact hrun
theorem MapIs.store_step (h : MapIs P K E w b m) (hw : Region.wanted o (yielded ops a.tmps) = true) (t : TypeId) (mo x v : Operand) (hop : o.op = Op.mapUpdate t mo x v) (hk : P.underlying K = some .string) (ht : P.underlying t = some (.map K E)) (he : P.underlying E = some (.int .i64))
    (hn : m.length < maxLen) (hm : a.eval mo = .map (some b)) {s : ByteArray} (hs : s.size ≤ maxLen) (hx : a.eval x = .string s) {n : Int} (hv : a.eval v = .int .i64 n) (hwf : (Lit.int .i64 n).wf = true)
    (hK : ∀ w', MapIs P K E w' b ((s.data.toList, n) :: m) → w.grownBy w' (some b) → Kc (a.put o.dst undef) w') : if Region.wanted o (yielded ops a.tmps) = true then Oper.wp P o a w Kc Q else Kc (a.put o.dst undef) w := by
  rw [if_pos hw]
  obtain ⟨w', hrun, r1, r2⟩ := h.out.update (string_keyed hk) ht hn (keyOf_string_mk hk hs) (plainElem_int he hwf)
  unfold Oper.wp
  simp [execOp, hop, hm, hx, hv, hrun, Result.andThen]
  exact hK _ ⟨r1⟩ r2
theorem MapIs.insert (h : MapIs P K E w b m) (hg : o.guard = none) (t : TypeId) (mo x v : Operand) (hop : o.op = Op.insert t mo x v) (hk : P.underlying K = some .string) (ht : P.underlying t = some (.map K E)) (he : P.underlying E = some (.int .i64))
    (hn : m.length < maxLen) (hm : a.eval mo = .map (some b)) {s : ByteArray} (hs : s.size ≤ maxLen) (hx : a.eval x = .string s) {n : Int} (hv : a.eval v = .int .i64 n) (hwf : (Lit.int .i64 n).wf = true)
    (hK : ∀ w', MapIs P K E w' b ((s.data.toList, n) :: m) → w.grownBy w' (some b) → wpList P ops Q rest (a.put o.dst undef) w') : wpList P ops Q (o :: rest) a w := by
  refine wpList_plain hg fun K' hK' => ?_
  obtain ⟨w', hrun, r1, r2⟩ := h.out.update (string_keyed hk) ht hn (keyOf_string_mk hk hs) (plainElem_int he hwf)
  unfold Oper.wp
  simp [execOp, hop, hm, hx, hv, hrun, Result.andThen]
  exact hK' _ _ (hK w' ⟨r1⟩ r2)
end
end Go.Proofs.YtfjnjcefcoboaaaW.PrintWords
