/- The texts Px46, FInsertC36, FInsert36, one behind the other: what functions of the program, its reference and its laws come to, the words that this takes, and what follows. No condition beyond what each theorem names. -/
import Derived.Test.YtcgkmdmbjffipaaZEnsemble1
import Derived.Test.YtcgkmdmbjffipaaZEnsemble2
import Derived.Test.YtcgkmdmbjffipaaZEnsemble0
import Derived.Lib.AppendZerosOnto
import Derived.Lib.Overlaps
import Derived.Laws.NewBlocks
import Derived.Shelf.RegionOpenPlain
namespace Go.Proofs.Ytcgkmdmbjffipaa.P
open Go.RowKit Go.Proofs.YtcgkmdmbjffipaaW.PrintWords Go.Proofs.YtcgkmdmbjffipaaW.PrintLast Go.Proofs.YtcgkmdmbjffipaaW.PrintMore
attribute [local go_sem] max2_int min2_int max_two min_two max_three min_three max_four min_four   -- for this text's walks alone
set_option linter.unusedVariables false
set_option linter.unusedSimpArgs false
def impl_Turn_48_at_impl_compareTurns.l0 : Nat → List (S36) → Int → Int → Int → ByteArray → Int → Int → Option (Int × Bool)
  | 0, _, _, _, _, _, _, _ => none
  | k + 1, x0, x8, x9, x10, x298000, x298001, x298002 => if x9 < x10 then (if 0 ≤ (wrap64 ((IntKind.u64.wrap (wrap64 (x9 + x10))) / 2)) then (if (wrap64 ((IntKind.u64.wrap (wrap64 (x9 + x10))) / 2)) < (x0.length : Int) then ((impl_compareTurns.f k ((rd_T36 x0 (wrap64 ((IntKind.u64.wrap (wrap64 (x9 + x10))) / 2))).f0) ((rd_T36 x0 (wrap64 ((IntKind.u64.wrap (wrap64 (x9 + x10))) / 2))).f1) ((rd_T36 x0 (wrap64 ((IntKind.u64.wrap (wrap64 (x9 + x10))) / 2))).f2) x298000 x298001 x298002).bind fun t299 => (if t299 < 0 then (impl_Turn_48_at_impl_compareTurns.l0 k x0 x8 (wrap64 ((wrap64 ((IntKind.u64.wrap (wrap64 (x9 + x10))) / 2)) + 1)) x10 x298000 x298001 x298002) else (impl_Turn_48_at_impl_compareTurns.l0 k x0 x8 x9 (wrap64 ((IntKind.u64.wrap (wrap64 (x9 + x10))) / 2)) x298000 x298001 x298002))) else (none)) else (none)) else (if x9 < x8 then (if 0 ≤ x9 then (if x9 < (x0.length : Int) then ((impl_compareTurns.f k ((rd_T36 x0 x9).f0) ((rd_T36 x0 x9).f1) ((rd_T36 x0 x9).f2) x298000 x298001 x298002).bind fun t301 => (some (x9, (t301 == 0)))) else (none)) else (none)) else (some (x9, false)))
def impl_Turn_48_at_impl_compareTurns.f (k : Nat) (l0 : List (S36)) (a1_0 : ByteArray) (a1_1 : Int) (a1_2 : Int) : Option (Int × Bool) := impl_Turn_48_at_impl_compareTurns.l0 k l0 (l0.length : Int) 0 (l0.length : Int) a1_0 a1_1 a1_2
theorem impl_Turn_48_at_impl_compareTurns.mono_l : ∀ k, (∀ y0 y1 y2 y3 y4 y5 y6, LeO (impl_Turn_48_at_impl_compareTurns.l0 k y0 y1 y2 y3 y4 y5 y6) (impl_Turn_48_at_impl_compareTurns.l0 (k + 1) y0 y1 y2 y3 y4 y5 y6))
  | 0 => fun _ _ _ _ _ _ _ r h => by simp [impl_Turn_48_at_impl_compareTurns.l0] at h
  | k + 1 => by
    have ih0 := impl_Turn_48_at_impl_compareTurns.mono_l k
    · intro y0 y1 y2 y3 y4 y5 y6
      unfold impl_Turn_48_at_impl_compareTurns.l0
      repeat' first
      | (with_reducible exact ih0 _ _ _ _ _ _ _)
      | (with_reducible exact impl_compareTurns.mono _ _ _ _ _ _ _)
      | (with_reducible exact LeO.refl _)
      | (with_reducible exact LeO.none _)
      | (with_reducible refine LeO.ite ?_ ?_)
      | (with_reducible refine LeO.bind ?_ (fun _ => ?_))
      | exact ih0 _ _ _ _ _ _ _
      | exact impl_compareTurns.mono _ _ _ _ _ _ _
      | exact LeO.none _
      | refine LeO.ite ?_ ?_
      | refine LeO.bind ?_ (fun _ => ?_)
theorem impl_Turn_48_at_impl_compareTurns.mono : ∀ a0 a1 a2 a3 k, LeO (impl_Turn_48_at_impl_compareTurns.f k a0 a1 a2 a3) (impl_Turn_48_at_impl_compareTurns.f (k + 1) a0 a1 a2 a3) := by
  intro a0 a1 a2 a3 k
  have ih0 := impl_Turn_48_at_impl_compareTurns.mono_l k
  unfold impl_Turn_48_at_impl_compareTurns.f
  repeat' first
      | (with_reducible exact ih0 _ _ _ _ _ _ _)
      | (with_reducible exact impl_compareTurns.mono _ _ _ _ _ _ _)
      | (with_reducible exact LeO.refl _)
      | (with_reducible exact LeO.none _)
      | (with_reducible refine LeO.ite ?_ ?_)
      | (with_reducible refine LeO.bind ?_ (fun _ => ?_))
      | exact ih0 _ _ _ _ _ _ _
      | exact impl_compareTurns.mono _ _ _ _ _ _ _
      | exact LeO.none _
      | refine LeO.ite ?_ ?_
      | refine LeO.bind ?_ (fun _ => ?_)
def impl_Turn_48_at_impl_compareTurns.T5 : Bool × List (List Nat × List Nat) := (true, [([], []), ([], []), ([], []), ([1, 2], [1, 2]), ([3], [3]), ([], []), ([0, 4, 5], [0, 4, 5]), ([6], [6])])
def impl_Turn_48_at_impl_compareTurns.B5 : List Nat := [0, 0, 0, 6, 14, 0, 63, 127]
theorem impl_Turn_48_at_impl_compareTurns.tab5 : rtab .any (opsOf Try.f48 5) = impl_Turn_48_at_impl_compareTurns.T5 := by kernel_rfl
theorem impl_Turn_48_at_impl_compareTurns.bits5 : waitsOk impl_Turn_48_at_impl_compareTurns.T5.2 impl_Turn_48_at_impl_compareTurns.B5 = true := by kernel_rfl
def impl_Turn_48_at_impl_compareTurns.T8 : Bool × List (List Nat × List Nat) := (true, [([], []), ([], []), ([], []), ([1, 2], [1, 2]), ([3], [3]), ([4], [4]), ([4], [4]), ([4], [4]), ([6, 7, 4], [4, 6, 7]), ([8, 4], [4, 8]), ([4], [4]), ([5, 9, 10, 4, 4], [4, 5, 9, 10]), ([11, 4], [4, 11]), ([4, 12], [4, 12]), ([0, 11, 0], [0]), ([13, 14, 0, 1, 2, 3, 4, 5, 6, 7, 8, 9, 10, 11, 12, 13, 14], [13])])
def impl_Turn_48_at_impl_compareTurns.B8 : List Nat := [0, 0, 0, 6, 14, 30, 30, 30, 222, 478, 30, 2046, 4094, 8190, 4095, 32767]
theorem impl_Turn_48_at_impl_compareTurns.tab8 : rtab .any (opsOf Try.f48 8) = impl_Turn_48_at_impl_compareTurns.T8 := by kernel_rfl
theorem impl_Turn_48_at_impl_compareTurns.bits8 : waitsOk impl_Turn_48_at_impl_compareTurns.T8.2 impl_Turn_48_at_impl_compareTurns.B8 = true := by kernel_rfl
set_option maxHeartbeats 8000000 in
set_option maxRecDepth 100000 in
theorem impl_Turn_48_at_impl_compareTurns.calls (k : Nat) (A0 : Option Addr) (c0 : Nat) (l0 : List (S36)) (a1_0 : ByteArray) (a1_1 : Int) (a1_2 : Int) (r1 : Int) (r2 : Bool) (w : World) (hr0 : Kd.C k36 w A0 l0.length l0) (hc0 : l0.length ≤ c0) (h : impl_Turn_48_at_impl_compareTurns.f k l0 a1_0 a1_1 a1_2 = some (r1, r2)) :
    Calls Try.prog 48 #[.slice A0 l0.length c0, .agg #[.string a1_0, .int .i64 a1_1, .int .i64 a1_2], .func (.func 49) #[] #[]] w fun e w' => e = .returned (.tuple #[.int .i64 r1, .bool r2]) ∧ Below w.heap.size w w' := by
 have eg49 : ∀ args w, (callFunc 49 args).run Try.prog w = .ok (.enter 49 args) w := enters_of Try.func49 (by kernel_rfl) rfl
 have hu36 := Try.underlying36
 have HR0 := Aside0.mk hr0
 have HC0 := Aside0.mk hc0
 clear hr0 hc0
 have HB := Aside0.mk (Below.refl w.heap.size w)
 have H : (impl_Turn_48_at_impl_compareTurns.l0 k l0 (l0.length : Int) 0 (l0.length : Int) a1_0 a1_1 a1_2) = some (r1, r2) := h
 clear h
 have H' := Aside0.mk H
 clear H
 go_enter Try.func48, Try.ntmps48
 go_wp2_with (first | ((with_reducible refine gate_dst (N := 4) rfl ?_); refine box_event ?hg (N := 4) ?hd (cs := #[.string a1_0, .int .i64 a1_1, .int .i64 a1_2]) (t := 36) ?hr ?_; (case hd => rfl); (case hg => rfl); (case hr => first | (go_simp; done) | (go_simp; rfl)); intro gb297 hg w3 hbox hb; have n0_ := Aside0.mk (below_step (by repeat (first | (with_reducible first | exact HB.out | apply below_alloc | apply pw_below_drewN | apply below_drew1) | exact HB.out)) hb); have n1_ := Aside0.mk (hbox); have n2_ := Aside0.mk ((by rw [hg]; exact (below_size (by repeat (first | (with_reducible first | exact HB.out | apply below_alloc | apply pw_below_drewN | apply below_drew1) | exact HB.out))) : w.heap.size ≤ gb297)); have n3_ := Aside0.mk ((by rw [hg]; exact (below_size (by repeat (first | (with_reducible first | exact HB.out | apply below_alloc | apply pw_below_drewN | apply below_drew1) | exact HB.out))) : w.heap.size ≤ gb297)); clear HB; have HB := n0_; have BK297 := n1_; have GW297 := n2_; have GE297 := n3_; clear n0_ n1_ n2_ n3_; clear hb hbox hg))
 (try simp only [Act.put, List.setIfInBounds_toArray, List.set_cons_zero, List.set_cons_succ])
 go_loopg [9, 10] k (fun kq v9 v10 w' => ∃ (x9_1 : Int) (x10_1 : Int), v9 = .int .i64 x9_1 ∧ v10 = .int .i64 x10_1 ∧ Aside0 (impl_Turn_48_at_impl_compareTurns.l0 kq l0 (l0.length : Int) x9_1 x10_1 a1_0 a1_1 a1_2 = some (r1, r2)) ∧ Aside0 (kq ≤ k) ∧ Aside0 (w'.heap[gb297]? = some (.cells #[.string a1_0, .int .i64 a1_1, .int .i64 a1_2] 36 (0, 0))) ∧ Aside0 (Below w.heap.size w w'))
 case atStart => exact ⟨(0), ((l0.length : Int)), (by first | rfl | (simp; done) | (simp [*]; done)), (by first | rfl | (simp; done) | (simp [*]; done)), H', ⟨Nat.le_refl _⟩, ⟨by (with_reducible repeat (first | refine blk_drewN ?_ _ | refine blk_drew ?_ | refine blk_alloc ?_ _)); exact BK297.out⟩, ⟨by repeat (first | (with_reducible first | exact HB.out | apply below_alloc | apply pw_below_drewN | apply below_drew1 | refine below_set ?_ GE297.out) | exact HB.out)⟩⟩
 case round =>
  skip
  {
 clear H'
 try clear p2
 obtain ⟨x9_1, x10_1, rfl, rfl, HA, HK1, BK297, HB⟩ := hrel
 cases gk with
 | zero => exact absurd HA.out (by simp [impl_Turn_48_at_impl_compareTurns.l0])
 | succ k1 =>
  skip
  {
 have H := HA.out
 clear HA
 simp only [impl_Turn_48_at_impl_compareTurns.l0] at H
 by_cases c4 : x9_1 < x10_1
 {
 rw [if_pos c4] at H
 have c4b0 : decide (x9_1 < x10_1) = true := decide_eq_true c4
 clear c4
 obtain ⟨ji5, hji5⟩ : ∃ j_ : Int, (wrap64 ((IntKind.u64.wrap (wrap64 (x9_1 + x10_1))) / 2)) = j_ := ⟨_, rfl⟩
 replace H : (if 0 ≤ (ji5) then (if (ji5) < (l0.length : Int) then ((impl_compareTurns.f k1 ((rd_T36 l0 (ji5)).f0) ((rd_T36 l0 (ji5)).f1) ((rd_T36 l0 (ji5)).f2) a1_0 a1_1 a1_2).bind fun t299 => (if t299 < 0 then (impl_Turn_48_at_impl_compareTurns.l0 k1 l0 (l0.length : Int) (wrap64 ((ji5) + 1)) x10_1 a1_0 a1_1 a1_2) else (impl_Turn_48_at_impl_compareTurns.l0 k1 l0 (l0.length : Int) x9_1 ji5 a1_0 a1_1 a1_2))) else (none)) else (none)) = some (r1, r2) := by first | (rw [hji5] at H; exact H) | (simp only [hji5] at H ⊢; exact H)
 have hji5w : (IntKind.i64.wrap ((IntKind.u64.wrap (wrap64 (x9_1 + x10_1))) / 2)) = ji5 := (i64_w _).trans hji5
 by_cases c6 : 0 ≤ (ji5)
 {
 rw [if_pos c6] at H
 have c6b0 : decide (0 ≤ (ji5)) = true := decide_eq_true c6
 clear c6
 by_cases c7 : (ji5) < (l0.length : Int)
 {
 rw [if_pos c7] at H
 have c7b0 : decide ((ji5) < (l0.length : Int)) = true := decide_eq_true c7
 clear c7
 replace H := Option.bind_eq_some_iff.mp H
 obtain ⟨t299, A80, H⟩ := H
 replace H : (if t299 < 0 then (impl_Turn_48_at_impl_compareTurns.l0 k1 l0 (l0.length : Int) (wrap64 ((ji5) + 1)) x10_1 a1_0 a1_1 a1_2) else (impl_Turn_48_at_impl_compareTurns.l0 k1 l0 (l0.length : Int) x9_1 ji5 a1_0 a1_1 a1_2)) = some (r1, r2) := H
 have A8 := Aside0.mk A80
 clear A80
 by_cases c9 : t299 < 0
 {
 rw [if_pos c9] at H
 have c9b0 : decide (t299 < 0) = true := decide_eq_true c9
 clear c9
 have H' := Aside0.mk H
 clear H
 try go_wp2
 have n0_ := Aside0.mk (blk_drew BK297.out)
 have n1_ := Aside0.mk (below_drew1 HB.out)
 clear BK297
 clear HB
 have BK297 := n0_
 have HB := n1_
 clear n0_ n1_
 have p298 : 0 ≤ ((ji5) : Int) := of_decide_eq_true (by first | (with_reducible assumption) | assumption)
 have q298 : (ji5) < (l0.length : Int) := of_decide_eq_true (by first | (with_reducible assumption) | assumption)
 obtain ⟨ad298, e298, hx298_0, hx298_1, hx298_2⟩ := at_T36 HR0.out (ji5) p298 q298
 have hw298_2 := hx298_2
 have hw298_1 := hx298_1
 have hw298_0 := hx298_0
 cases e298
 replace hx298_0 := (HB.out.cell (World.block_lt_of_cell? w _ hx298_0)).trans hx298_0
 replace hx298_1 := (HB.out.cell (World.block_lt_of_cell? w _ hx298_1)).trans hx298_1
 replace hx298_2 := (HB.out.cell (World.block_lt_of_cell? w _ hx298_2)).trans hx298_2
 replace p298 := eq_true p298
 replace q298 := eq_true q298
 refine start_ (n := 8) (S := fun w' => w'.cell? ⟨gb297, 0, none⟩ = some (.string a1_0) ∧ w'.cell? ⟨gb297, 1, none⟩ = some (.int .i64 a1_1) ∧ w'.cell? ⟨gb297, 2, none⟩ = some (.int .i64 a1_2) ∧ w'.cell? (ad298.add (((ji5)).toNat * 3)) = some (.string ((rd_T36 l0 (ji5)).f0)) ∧ w'.cell? ⟨(ad298.add (((ji5)).toNat * 3)).block, (ad298.add (((ji5)).toNat * 3)).off + 1, none⟩ = some (.int .i64 ((rd_T36 l0 (ji5)).f1)) ∧ w'.cell? ⟨(ad298.add (((ji5)).toNat * 3)).block, (ad298.add (((ji5)).toNat * 3)).off + 2, none⟩ = some (.int .i64 ((rd_T36 l0 (ji5)).f2))) (ds := []) #[false, false, false, false, false, false, false, false] (by kernel_rfl) rfl rfl ⟨(blk_cell BK297.out 0).trans rfl, (blk_cell BK297.out 1).trans rfl, (blk_cell BK297.out 2).trans rfl, ((HB.out.cell (World.block_lt_of_cell? w _ hw298_0)).trans hw298_0), ((HB.out.cell (World.block_lt_of_cell? w _ hw298_1)).trans hw298_1), ((HB.out.cell (World.block_lt_of_cell? w _ hw298_2)).trans hw298_2)⟩ (fun hHeld => ?_); refine with_tabW impl_Turn_48_at_impl_compareTurns.tab5 impl_Turn_48_at_impl_compareTurns.bits5 (fun HT_ HW_ => ?_)
 generalize wr.drew = w10 at BK297 HB hx298_0 hx298_1 hx298_2 hHeld ⊢
 refine pure_ (i := 0) (N := some 24) (v := ?_) (a' := ?_) #[true, false, false, false, false, false, false, false] rfl rfl (any_of HT_.out (by kernel_rfl)) (fun _ _ _ h => h) (Or.inl ⟨by rfl, ?_⟩) ?_ ?_
 rotate_left
 {
 intro w'
 go_simp
 with_reducible rfl
 }
 rotate_left
 {
 simp only [Act.put, List.setIfInBounds_toArray, List.set_cons_zero, List.set_cons_succ, i64_w, i32_w]
 rfl
 }
 refine pure_ (i := 1) (N := some 25) (v := ?_) (a' := ?_) #[true, true, false, false, false, false, false, false] rfl rfl (any_of HT_.out (by kernel_rfl)) (fun _ _ _ h => h) (Or.inl ⟨by rfl, ?_⟩) ?_ ?_
 rotate_left
 {
 intro w'
 go_simp
 with_reducible rfl
 }
 rotate_left
 {
 simp only [Act.put, List.setIfInBounds_toArray, List.set_cons_zero, List.set_cons_succ, i64_w, i32_w]
 rfl
 }
 refine pure_ (i := 2) (N := some 26) (v := ?_) (a' := ?_) #[true, true, true, false, false, false, false, false] rfl rfl (any_of HT_.out (by kernel_rfl)) (fun _ _ _ h => h) (Or.inl ⟨by rfl, ?_⟩) ?_ ?_
 rotate_left
 {
 intro w'
 go_simp
 with_reducible rfl
 }
 rotate_left
 {
 simp only [Act.put, List.setIfInBounds_toArray, List.set_cons_zero, List.set_cons_succ, i64_w, i32_w]
 rfl
 }
 refine pure_ (i := 3) (N := some 27) (v := ?_) (a' := ?_) #[true, true, true, true, false, false, false, false] rfl rfl (any_of HT_.out (by kernel_rfl)) (fun _ _ _ h => h) (Or.inl ⟨by rfl, ?_⟩) ?_ ?_
 rotate_left
 {
 intro w'
 go_simp
 with_reducible rfl
 }
 rotate_left
 {
 simp only [Act.put, List.setIfInBounds_toArray, List.set_cons_zero, List.set_cons_succ, i64_w, i32_w]
 rfl
 }
 refine take_ (i := 4) (N := some 28) (v := ?_) (a' := ?_) #[true, true, true, true, true, false, false, false] rfl rfl (take_ofW HT_.out HW_.out (by kernel_rfl)) (fun _ _ _ h => h) (Or.inl ⟨by rfl, ?_⟩) hHeld ?_ ?_
 rotate_left
 {
 rintro w' ⟨s0, s1, s2, s3, s4, s5⟩
 go_simp
 with_reducible rfl
 }
 rotate_left
 {
 simp only [Act.put, List.setIfInBounds_toArray, List.set_cons_zero, List.set_cons_succ, i64_w, i32_w]
 rfl
 }
 refine take_ (i := 5) (N := some 29) (v := ?_) (a' := ?_) #[true, true, true, true, true, true, false, false] rfl rfl (take_ofW HT_.out HW_.out (by kernel_rfl)) (fun _ _ _ h => h) (Or.inl ⟨by rfl, ?_⟩) hHeld ?_ ?_
 rotate_left
 {
 rintro w' ⟨s0, s1, s2, s3, s4, s5⟩
 go_simp
 with_reducible rfl
 }
 rotate_left
 {
 simp only [Act.put, List.setIfInBounds_toArray, List.set_cons_zero, List.set_cons_succ, i64_w, i32_w]
 rfl
 }
 refine one_ (i := 6) (N := some 30) #[true, true, true, true, true, true, true, false] rfl rfl (one_of HT_.out (by kernel_rfl)) (by decide) (fun K hK => ?_)
 refine goesV_ Try.func49 (by kernel_rfl) rfl #[.agg #[.string ((rd_T36 l0 (ji5)).f0), .int .i64 ((rd_T36 l0 (ji5)).f1), .int .i64 ((rd_T36 l0 (ji5)).f2)], .agg #[.string a1_0, .int .i64 a1_1, .int .i64 a1_2]] (by rfl) rfl rfl (by first | rfl | (simp only [Act.eval]; rfl)) (by (try simp only [List.map_toArray, List.map_cons, List.map_nil]); first | done | (simp only [hji5]; rfl) | rfl | (simp only [List.length_drop, List.length_take]; rfl)) ?_
 refine (impl_compareTurns.calls k1 ((rd_T36 l0 (ji5)).f0) ((rd_T36 l0 (ji5)).f1) ((rd_T36 l0 (ji5)).f2) a1_0 a1_1 a1_2 t299 _ A8.out).mono ?_
 rintro e w11 ⟨rfl, hb⟩
 refine ⟨_, rfl, ?_⟩
 have n0_ := Aside0.mk (blk_below (g := gb297) (o := .cells #[.string a1_0, .int .i64 a1_1, .int .i64 a1_2] 36 (0, 0)) (by (with_reducible repeat (first | refine blk_drewN ?_ _ | refine blk_drew ?_ | refine blk_alloc ?_ _)); exact BK297.out) hb)
 have n1_ := Aside0.mk (below_step (by repeat (first | (with_reducible first | exact HB.out | apply below_alloc | apply pw_below_drewN | apply below_drew1 | refine below_set ?_ GE297.out) | exact HB.out)) hb)
 clear BK297
 clear HB
 have BK297 := n0_
 have HB := n1_
 clear n0_ n1_
 (try clear hb)
 (try clear hb2)
 (try clear hk)
 (try clear hi)
 refine hK.out _ _ ⟨(blk_cell BK297.out 0).trans rfl, (blk_cell BK297.out 1).trans rfl, (blk_cell BK297.out 2).trans rfl, ((HB.out.cell (World.block_lt_of_cell? w _ hw298_0)).trans hw298_0), ((HB.out.cell (World.block_lt_of_cell? w _ hw298_1)).trans hw298_1), ((HB.out.cell (World.block_lt_of_cell? w _ hw298_2)).trans hw298_2)⟩ (fun hHeld => ?_)
 clear hK K
 refine norm_ (a' := ?_) ?_ ?_
 rotate_left
 {
 show Act.put _ (some 30) _ = _
 simp only [Act.put, List.setIfInBounds_toArray, List.set_cons_zero, List.set_cons_succ, i64_w, i32_w]
 rfl
 }
 refine pure_ (i := 7) (N := some 31) (v := ?_) (a' := ?_) #[true, true, true, true, true, true, true, true] rfl rfl (any_of HT_.out (by kernel_rfl)) (fun _ _ _ h => h) (Or.inl ⟨by rfl, ?_⟩) ?_ ?_
 rotate_left
 {
 intro w'
 go_simp
 with_reducible rfl
 }
 rotate_left
 {
 simp only [Act.put, List.setIfInBounds_toArray, List.set_cons_zero, List.set_cons_succ, i64_w, i32_w]
 rfl
 }
 refine done_ (done_of HT_.out (by kernel_rfl)) ?_
 try go_wp2
 go_roundg k1
 case measure => have := HK1.out; omega
 case rel => exact ⟨(wrap64 ((ji5) + 1)), (x10_1), (by first | rfl | (simp; done) | (simp only [← hji5] <;> (first | rfl | simp)) | (simp [*]; done)), (by first | rfl | (simp; done) | (simp [*]; done)), H', ⟨by have := HK1.out; omega⟩, ⟨by (with_reducible repeat (first | refine blk_drewN ?_ _ | refine blk_drew ?_ | refine blk_alloc ?_ _)); exact BK297.out⟩, ⟨by repeat (first | (with_reducible first | exact HB.out | apply below_alloc | apply pw_below_drewN | apply below_drew1 | refine below_set ?_ GE297.out) | exact HB.out)⟩⟩
 }
 {
 rw [if_neg c9] at H
 have c9b0 : decide (t299 < 0) = false := decide_eq_false c9
 clear c9
 have H' := Aside0.mk H
 clear H
 try go_wp2
 have n0_ := Aside0.mk (blk_drew BK297.out)
 have n1_ := Aside0.mk (below_drew1 HB.out)
 clear BK297
 clear HB
 have BK297 := n0_
 have HB := n1_
 clear n0_ n1_
 have p298 : 0 ≤ ((ji5) : Int) := of_decide_eq_true (by first | (with_reducible assumption) | assumption)
 have q298 : (ji5) < (l0.length : Int) := of_decide_eq_true (by first | (with_reducible assumption) | assumption)
 obtain ⟨ad298, e298, hx298_0, hx298_1, hx298_2⟩ := at_T36 HR0.out (ji5) p298 q298
 have hw298_2 := hx298_2
 have hw298_1 := hx298_1
 have hw298_0 := hx298_0
 cases e298
 replace hx298_0 := (HB.out.cell (World.block_lt_of_cell? w _ hx298_0)).trans hx298_0
 replace hx298_1 := (HB.out.cell (World.block_lt_of_cell? w _ hx298_1)).trans hx298_1
 replace hx298_2 := (HB.out.cell (World.block_lt_of_cell? w _ hx298_2)).trans hx298_2
 replace p298 := eq_true p298
 replace q298 := eq_true q298
 refine start_ (n := 8) (S := fun w' => w'.cell? ⟨gb297, 0, none⟩ = some (.string a1_0) ∧ w'.cell? ⟨gb297, 1, none⟩ = some (.int .i64 a1_1) ∧ w'.cell? ⟨gb297, 2, none⟩ = some (.int .i64 a1_2) ∧ w'.cell? (ad298.add (((ji5)).toNat * 3)) = some (.string ((rd_T36 l0 (ji5)).f0)) ∧ w'.cell? ⟨(ad298.add (((ji5)).toNat * 3)).block, (ad298.add (((ji5)).toNat * 3)).off + 1, none⟩ = some (.int .i64 ((rd_T36 l0 (ji5)).f1)) ∧ w'.cell? ⟨(ad298.add (((ji5)).toNat * 3)).block, (ad298.add (((ji5)).toNat * 3)).off + 2, none⟩ = some (.int .i64 ((rd_T36 l0 (ji5)).f2))) (ds := []) #[false, false, false, false, false, false, false, false] (by kernel_rfl) rfl rfl ⟨(blk_cell BK297.out 0).trans rfl, (blk_cell BK297.out 1).trans rfl, (blk_cell BK297.out 2).trans rfl, ((HB.out.cell (World.block_lt_of_cell? w _ hw298_0)).trans hw298_0), ((HB.out.cell (World.block_lt_of_cell? w _ hw298_1)).trans hw298_1), ((HB.out.cell (World.block_lt_of_cell? w _ hw298_2)).trans hw298_2)⟩ (fun hHeld => ?_); refine with_tabW impl_Turn_48_at_impl_compareTurns.tab5 impl_Turn_48_at_impl_compareTurns.bits5 (fun HT_ HW_ => ?_)
 generalize wr.drew = w12 at BK297 HB hx298_0 hx298_1 hx298_2 hHeld ⊢
 refine pure_ (i := 0) (N := some 24) (v := ?_) (a' := ?_) #[true, false, false, false, false, false, false, false] rfl rfl (any_of HT_.out (by kernel_rfl)) (fun _ _ _ h => h) (Or.inl ⟨by rfl, ?_⟩) ?_ ?_
 rotate_left
 {
 intro w'
 go_simp
 with_reducible rfl
 }
 rotate_left
 {
 simp only [Act.put, List.setIfInBounds_toArray, List.set_cons_zero, List.set_cons_succ, i64_w, i32_w]
 rfl
 }
 refine pure_ (i := 1) (N := some 25) (v := ?_) (a' := ?_) #[true, true, false, false, false, false, false, false] rfl rfl (any_of HT_.out (by kernel_rfl)) (fun _ _ _ h => h) (Or.inl ⟨by rfl, ?_⟩) ?_ ?_
 rotate_left
 {
 intro w'
 go_simp
 with_reducible rfl
 }
 rotate_left
 {
 simp only [Act.put, List.setIfInBounds_toArray, List.set_cons_zero, List.set_cons_succ, i64_w, i32_w]
 rfl
 }
 refine pure_ (i := 2) (N := some 26) (v := ?_) (a' := ?_) #[true, true, true, false, false, false, false, false] rfl rfl (any_of HT_.out (by kernel_rfl)) (fun _ _ _ h => h) (Or.inl ⟨by rfl, ?_⟩) ?_ ?_
 rotate_left
 {
 intro w'
 go_simp
 with_reducible rfl
 }
 rotate_left
 {
 simp only [Act.put, List.setIfInBounds_toArray, List.set_cons_zero, List.set_cons_succ, i64_w, i32_w]
 rfl
 }
 refine pure_ (i := 3) (N := some 27) (v := ?_) (a' := ?_) #[true, true, true, true, false, false, false, false] rfl rfl (any_of HT_.out (by kernel_rfl)) (fun _ _ _ h => h) (Or.inl ⟨by rfl, ?_⟩) ?_ ?_
 rotate_left
 {
 intro w'
 go_simp
 with_reducible rfl
 }
 rotate_left
 {
 simp only [Act.put, List.setIfInBounds_toArray, List.set_cons_zero, List.set_cons_succ, i64_w, i32_w]
 rfl
 }
 refine take_ (i := 4) (N := some 28) (v := ?_) (a' := ?_) #[true, true, true, true, true, false, false, false] rfl rfl (take_ofW HT_.out HW_.out (by kernel_rfl)) (fun _ _ _ h => h) (Or.inl ⟨by rfl, ?_⟩) hHeld ?_ ?_
 rotate_left
 {
 rintro w' ⟨s0, s1, s2, s3, s4, s5⟩
 go_simp
 with_reducible rfl
 }
 rotate_left
 {
 simp only [Act.put, List.setIfInBounds_toArray, List.set_cons_zero, List.set_cons_succ, i64_w, i32_w]
 rfl
 }
 refine take_ (i := 5) (N := some 29) (v := ?_) (a' := ?_) #[true, true, true, true, true, true, false, false] rfl rfl (take_ofW HT_.out HW_.out (by kernel_rfl)) (fun _ _ _ h => h) (Or.inl ⟨by rfl, ?_⟩) hHeld ?_ ?_
 rotate_left
 {
 rintro w' ⟨s0, s1, s2, s3, s4, s5⟩
 go_simp
 with_reducible rfl
 }
 rotate_left
 {
 simp only [Act.put, List.setIfInBounds_toArray, List.set_cons_zero, List.set_cons_succ, i64_w, i32_w]
 rfl
 }
 refine one_ (i := 6) (N := some 30) #[true, true, true, true, true, true, true, false] rfl rfl (one_of HT_.out (by kernel_rfl)) (by decide) (fun K hK => ?_)
 refine goesV_ Try.func49 (by kernel_rfl) rfl #[.agg #[.string ((rd_T36 l0 (ji5)).f0), .int .i64 ((rd_T36 l0 (ji5)).f1), .int .i64 ((rd_T36 l0 (ji5)).f2)], .agg #[.string a1_0, .int .i64 a1_1, .int .i64 a1_2]] (by rfl) rfl rfl (by first | rfl | (simp only [Act.eval]; rfl)) (by (try simp only [List.map_toArray, List.map_cons, List.map_nil]); first | done | (simp only [hji5]; rfl) | rfl | (simp only [List.length_drop, List.length_take]; rfl)) ?_
 refine (impl_compareTurns.calls k1 ((rd_T36 l0 (ji5)).f0) ((rd_T36 l0 (ji5)).f1) ((rd_T36 l0 (ji5)).f2) a1_0 a1_1 a1_2 t299 _ A8.out).mono ?_
 rintro e w13 ⟨rfl, hb⟩
 refine ⟨_, rfl, ?_⟩
 have n0_ := Aside0.mk (blk_below (g := gb297) (o := .cells #[.string a1_0, .int .i64 a1_1, .int .i64 a1_2] 36 (0, 0)) (by (with_reducible repeat (first | refine blk_drewN ?_ _ | refine blk_drew ?_ | refine blk_alloc ?_ _)); exact BK297.out) hb)
 have n1_ := Aside0.mk (below_step (by repeat (first | (with_reducible first | exact HB.out | apply below_alloc | apply pw_below_drewN | apply below_drew1 | refine below_set ?_ GE297.out) | exact HB.out)) hb)
 clear BK297
 clear HB
 have BK297 := n0_
 have HB := n1_
 clear n0_ n1_
 (try clear hb)
 (try clear hb2)
 (try clear hk)
 (try clear hi)
 refine hK.out _ _ ⟨(blk_cell BK297.out 0).trans rfl, (blk_cell BK297.out 1).trans rfl, (blk_cell BK297.out 2).trans rfl, ((HB.out.cell (World.block_lt_of_cell? w _ hw298_0)).trans hw298_0), ((HB.out.cell (World.block_lt_of_cell? w _ hw298_1)).trans hw298_1), ((HB.out.cell (World.block_lt_of_cell? w _ hw298_2)).trans hw298_2)⟩ (fun hHeld => ?_)
 clear hK K
 refine norm_ (a' := ?_) ?_ ?_
 rotate_left
 {
 show Act.put _ (some 30) _ = _
 simp only [Act.put, List.setIfInBounds_toArray, List.set_cons_zero, List.set_cons_succ, i64_w, i32_w]
 rfl
 }
 refine pure_ (i := 7) (N := some 31) (v := ?_) (a' := ?_) #[true, true, true, true, true, true, true, true] rfl rfl (any_of HT_.out (by kernel_rfl)) (fun _ _ _ h => h) (Or.inl ⟨by rfl, ?_⟩) ?_ ?_
 rotate_left
 {
 intro w'
 go_simp
 with_reducible rfl
 }
 rotate_left
 {
 simp only [Act.put, List.setIfInBounds_toArray, List.set_cons_zero, List.set_cons_succ, i64_w, i32_w]
 rfl
 }
 refine done_ (done_of HT_.out (by kernel_rfl)) ?_
 try go_wp2
 go_roundg k1
 case measure => have := HK1.out; omega
 case rel => exact ⟨(x9_1), (ji5), (by first | rfl | (simp; done) | (simp [*]; done)), (by first | rfl | (simp; done) | (simp only [← hji5] <;> (first | rfl | simp)) | (simp [*]; done)), H', ⟨by have := HK1.out; omega⟩, ⟨by (with_reducible repeat (first | refine blk_drewN ?_ _ | refine blk_drew ?_ | refine blk_alloc ?_ _)); exact BK297.out⟩, ⟨by repeat (first | (with_reducible first | exact HB.out | apply below_alloc | apply pw_below_drewN | apply below_drew1 | refine below_set ?_ GE297.out) | exact HB.out)⟩⟩
 }
 }
 {
 rw [if_neg c7] at H
 exact absurd H (by simp)
 }
 }
 {
 rw [if_neg c6] at H
 exact absurd H (by simp)
 }
 }
 {
 rw [if_neg c4] at H
 have c4b0 : decide (x9_1 < x10_1) = false := decide_eq_false c4
 clear c4
 by_cases c14 : x9_1 < (l0.length : Int)
 {
 rw [if_pos c14] at H
 have c14b0 : decide (x9_1 < (l0.length : Int)) = true := decide_eq_true c14
 clear c14
 by_cases c15 : 0 ≤ x9_1
 {
 rw [if_pos c15] at H
 have c15b0 : decide (0 ≤ x9_1) = true := decide_eq_true c15
 clear c15
 by_cases c16 : x9_1 < (l0.length : Int)
 {
 rw [if_pos c16] at H
 have c16b0 : decide (x9_1 < (l0.length : Int)) = true := decide_eq_true c16
 clear c16
 replace H := Option.bind_eq_some_iff.mp H
 obtain ⟨t301, A170, H⟩ := H
 replace H : (some (x9_1, (t301 == 0))) = some (r1, r2) := H
 have A17 := Aside0.mk A170
 clear A170
 simp only [Option.some.injEq, Prod.mk.injEq] at H
 obtain ⟨rfl, rfl⟩ := H
 try go_wp2
 have n0_ := Aside0.mk (blk_drew BK297.out)
 have n1_ := Aside0.mk (below_drew1 HB.out)
 clear BK297
 clear HB
 have BK297 := n0_
 have HB := n1_
 clear n0_ n1_
 have p300 : 0 ≤ (x9_1 : Int) := of_decide_eq_true (by first | (with_reducible assumption) | assumption)
 have q300 : x9_1 < (l0.length : Int) := of_decide_eq_true (by first | (with_reducible assumption) | assumption)
 obtain ⟨ad300, e300, hx300_0, hx300_1, hx300_2⟩ := at_T36 HR0.out x9_1 p300 q300
 have hw300_2 := hx300_2
 have hw300_1 := hx300_1
 have hw300_0 := hx300_0
 cases e300
 replace hx300_0 := (HB.out.cell (World.block_lt_of_cell? w _ hx300_0)).trans hx300_0
 replace hx300_1 := (HB.out.cell (World.block_lt_of_cell? w _ hx300_1)).trans hx300_1
 replace hx300_2 := (HB.out.cell (World.block_lt_of_cell? w _ hx300_2)).trans hx300_2
 replace p300 := eq_true p300
 replace q300 := eq_true q300
 refine start_ (n := 16) (S := fun w' => w'.cell? ⟨gb297, 0, none⟩ = some (.string a1_0) ∧ w'.cell? ⟨gb297, 1, none⟩ = some (.int .i64 a1_1) ∧ w'.cell? ⟨gb297, 2, none⟩ = some (.int .i64 a1_2) ∧ w'.cell? (ad300.add ((x9_1).toNat * 3)) = some (.string ((rd_T36 l0 x9_1).f0)) ∧ w'.cell? ⟨(ad300.add ((x9_1).toNat * 3)).block, (ad300.add ((x9_1).toNat * 3)).off + 1, none⟩ = some (.int .i64 ((rd_T36 l0 x9_1).f1)) ∧ w'.cell? ⟨(ad300.add ((x9_1).toNat * 3)).block, (ad300.add ((x9_1).toNat * 3)).off + 2, none⟩ = some (.int .i64 ((rd_T36 l0 x9_1).f2))) (ds := []) #[false, false, false, false, false, false, false, false, false, false, false, false, false, false, false, false] (by kernel_rfl) rfl rfl ⟨(blk_cell BK297.out 0).trans rfl, (blk_cell BK297.out 1).trans rfl, (blk_cell BK297.out 2).trans rfl, ((HB.out.cell (World.block_lt_of_cell? w _ hw300_0)).trans hw300_0), ((HB.out.cell (World.block_lt_of_cell? w _ hw300_1)).trans hw300_1), ((HB.out.cell (World.block_lt_of_cell? w _ hw300_2)).trans hw300_2)⟩ (fun hHeld => ?_); refine with_tabW impl_Turn_48_at_impl_compareTurns.tab8 impl_Turn_48_at_impl_compareTurns.bits8 (fun HT_ HW_ => ?_)
 generalize wr.drew = w18 at BK297 HB hx300_0 hx300_1 hx300_2 hHeld ⊢
 refine pure_ (i := 0) (N := some 35) (v := ?_) (a' := ?_) #[true, false, false, false, false, false, false, false, false, false, false, false, false, false, false, false] rfl rfl (any_of HT_.out (by kernel_rfl)) (fun _ _ _ h => h) (Or.inl ⟨by rfl, ?_⟩) ?_ ?_
 rotate_left
 {
 intro w'
 go_simp
 with_reducible rfl
 }
 rotate_left
 {
 simp only [Act.put, List.setIfInBounds_toArray, List.set_cons_zero, List.set_cons_succ, i64_w, i32_w]
 rfl
 }
 refine pure_ (i := 1) (N := some 36) (v := ?_) (a' := ?_) #[true, true, false, false, false, false, false, false, false, false, false, false, false, false, false, false] rfl rfl (any_of HT_.out (by kernel_rfl)) (fun _ _ _ h => h) (Or.inl ⟨by rfl, ?_⟩) ?_ ?_
 rotate_left
 {
 intro w'
 go_simp
 with_reducible rfl
 }
 rotate_left
 {
 simp only [Act.put, List.setIfInBounds_toArray, List.set_cons_zero, List.set_cons_succ, i64_w, i32_w]
 rfl
 }
 refine pure_ (i := 2) (N := some 37) (v := ?_) (a' := ?_) #[true, true, true, false, false, false, false, false, false, false, false, false, false, false, false, false] rfl rfl (any_of HT_.out (by kernel_rfl)) (fun _ _ _ h => h) (Or.inl ⟨by rfl, ?_⟩) ?_ ?_
 rotate_left
 {
 intro w'
 go_simp
 with_reducible rfl
 }
 rotate_left
 {
 simp only [Act.put, List.setIfInBounds_toArray, List.set_cons_zero, List.set_cons_succ, i64_w, i32_w]
 rfl
 }
 refine pure_ (i := 3) (N := some 38) (v := ?_) (a' := ?_) #[true, true, true, true, false, false, false, false, false, false, false, false, false, false, false, false] rfl rfl (any_of HT_.out (by kernel_rfl)) (fun _ _ _ h => h) (Or.inl ⟨by rfl, ?_⟩) ?_ ?_
 rotate_left
 {
 intro w'
 go_simp
 with_reducible rfl
 }
 rotate_left
 {
 simp only [Act.put, List.setIfInBounds_toArray, List.set_cons_zero, List.set_cons_succ, i64_w, i32_w]
 rfl
 }
 refine pure_ (i := 4) (N := some 39) (v := ?_) (a' := ?_) #[true, true, true, true, true, false, false, false, false, false, false, false, false, false, false, false] rfl rfl (any_of HT_.out (by kernel_rfl)) (fun _ _ _ h => h) (Or.inl ⟨by rfl, ?_⟩) ?_ ?_
 rotate_left
 {
 intro w'
 go_simp
 with_reducible rfl
 }
 rotate_left
 {
 simp only [Act.put, List.setIfInBounds_toArray, List.set_cons_zero, List.set_cons_succ, i64_w, i32_w]
 rfl
 }
 refine pure_ (i := 5) (N := some 40) (v := ?_) (a' := ?_) #[true, true, true, true, true, true, false, false, false, false, false, false, false, false, false, false] rfl rfl (any_of HT_.out (by kernel_rfl)) (fun _ _ _ h => h) (Or.inl ⟨by rfl, ?_⟩) ?_ ?_
 rotate_left
 {
 intro w'
 go_simp
 with_reducible rfl
 }
 rotate_left
 {
 simp only [Act.put, List.setIfInBounds_toArray, List.set_cons_zero, List.set_cons_succ, i64_w, i32_w]
 rfl
 }
 refine pure_ (i := 6) (N := some 41) (v := ?_) (a' := ?_) #[true, true, true, true, true, true, true, false, false, false, false, false, false, false, false, false] rfl rfl (any_of HT_.out (by kernel_rfl)) (fun _ _ _ h => h) (Or.inl ⟨by rfl, ?_⟩) ?_ ?_
 rotate_left
 {
 intro w'
 go_simp
 with_reducible rfl
 }
 rotate_left
 {
 simp only [Act.put, List.setIfInBounds_toArray, List.set_cons_zero, List.set_cons_succ, i64_w, i32_w]
 rfl
 }
 refine pure_ (i := 7) (N := some 42) (v := ?_) (a' := ?_) #[true, true, true, true, true, true, true, true, false, false, false, false, false, false, false, false] rfl rfl (any_of HT_.out (by kernel_rfl)) (fun _ _ _ h => h) (Or.inl ⟨by rfl, ?_⟩) ?_ ?_
 rotate_left
 {
 intro w'
 go_simp
 with_reducible rfl
 }
 rotate_left
 {
 simp only [Act.put, List.setIfInBounds_toArray, List.set_cons_zero, List.set_cons_succ, i64_w, i32_w]
 rfl
 }
 refine pure_ (i := 8) (N := some 43) (v := ?_) (a' := ?_) #[true, true, true, true, true, true, true, true, true, false, false, false, false, false, false, false] rfl rfl (any_of HT_.out (by kernel_rfl)) (fun _ _ _ h => h) (Or.inl ⟨by rfl, ?_⟩) ?_ ?_
 rotate_left
 {
 intro w'
 go_simp
 with_reducible rfl
 }
 rotate_left
 {
 simp only [Act.put, List.setIfInBounds_toArray, List.set_cons_zero, List.set_cons_succ, i64_w, i32_w]
 rfl
 }
 refine take_ (i := 9) (N := some 44) (v := ?_) (a' := ?_) #[true, true, true, true, true, true, true, true, true, true, false, false, false, false, false, false] rfl rfl (take_ofW HT_.out HW_.out (by kernel_rfl)) (fun _ _ _ h => h) (Or.inl ⟨by rfl, ?_⟩) hHeld ?_ ?_
 rotate_left
 {
 rintro w' ⟨s0, s1, s2, s3, s4, s5⟩
 go_simp
 with_reducible rfl
 }
 rotate_left
 {
 simp only [Act.put, List.setIfInBounds_toArray, List.set_cons_zero, List.set_cons_succ, i64_w, i32_w]
 rfl
 }
 refine take_ (i := 10) (N := some 45) (v := ?_) (a' := ?_) #[true, true, true, true, true, true, true, true, true, true, true, false, false, false, false, false] rfl rfl (take_ofW HT_.out HW_.out (by kernel_rfl)) (fun _ _ _ h => h) (Or.inl ⟨by rfl, ?_⟩) hHeld ?_ ?_
 rotate_left
 {
 rintro w' ⟨s0, s1, s2, s3, s4, s5⟩
 go_simp
 with_reducible rfl
 }
 rotate_left
 {
 simp only [Act.put, List.setIfInBounds_toArray, List.set_cons_zero, List.set_cons_succ, i64_w, i32_w]
 rfl
 }
 refine one_ (i := 11) (N := some 46) #[true, true, true, true, true, true, true, true, true, true, true, true, false, false, false, false] rfl rfl (one_of HT_.out (by kernel_rfl)) (by decide) (fun K hK => ?_)
 refine goesV_ Try.func49 (by kernel_rfl) rfl #[.agg #[.string ((rd_T36 l0 x9_1).f0), .int .i64 ((rd_T36 l0 x9_1).f1), .int .i64 ((rd_T36 l0 x9_1).f2)], .agg #[.string a1_0, .int .i64 a1_1, .int .i64 a1_2]] (by rfl) rfl rfl (by first | rfl | (simp only [Act.eval]; rfl)) (by (try simp only [List.map_toArray, List.map_cons, List.map_nil]); first | done | rfl | (simp only [List.length_drop, List.length_take]; rfl)) ?_
 refine (impl_compareTurns.calls k1 ((rd_T36 l0 x9_1).f0) ((rd_T36 l0 x9_1).f1) ((rd_T36 l0 x9_1).f2) a1_0 a1_1 a1_2 t301 _ A17.out).mono ?_
 rintro e w19 ⟨rfl, hb⟩
 refine ⟨_, rfl, ?_⟩
 have n0_ := Aside0.mk (blk_below (g := gb297) (o := .cells #[.string a1_0, .int .i64 a1_1, .int .i64 a1_2] 36 (0, 0)) (by (with_reducible repeat (first | refine blk_drewN ?_ _ | refine blk_drew ?_ | refine blk_alloc ?_ _)); exact BK297.out) hb)
 have n1_ := Aside0.mk (below_step (by repeat (first | (with_reducible first | exact HB.out | apply below_alloc | apply pw_below_drewN | apply below_drew1 | refine below_set ?_ GE297.out) | exact HB.out)) hb)
 clear BK297
 clear HB
 have BK297 := n0_
 have HB := n1_
 clear n0_ n1_
 (try clear hb)
 (try clear hb2)
 (try clear hk)
 (try clear hi)
 refine hK.out _ _ ⟨(blk_cell BK297.out 0).trans rfl, (blk_cell BK297.out 1).trans rfl, (blk_cell BK297.out 2).trans rfl, ((HB.out.cell (World.block_lt_of_cell? w _ hw300_0)).trans hw300_0), ((HB.out.cell (World.block_lt_of_cell? w _ hw300_1)).trans hw300_1), ((HB.out.cell (World.block_lt_of_cell? w _ hw300_2)).trans hw300_2)⟩ (fun hHeld => ?_)
 clear hK K
 refine norm_ (a' := ?_) ?_ ?_
 rotate_left
 {
 show Act.put _ (some 46) _ = _
 simp only [Act.put, List.setIfInBounds_toArray, List.set_cons_zero, List.set_cons_succ, i64_w, i32_w]
 rfl
 }
 refine pure_ (i := 12) (N := some 47) (v := ?_) (a' := ?_) #[true, true, true, true, true, true, true, true, true, true, true, true, true, false, false, false] rfl rfl (any_of HT_.out (by kernel_rfl)) (fun _ _ _ h => h) (Or.inl ⟨by rfl, ?_⟩) ?_ ?_
 rotate_left
 {
 intro w'
 go_simp
 with_reducible rfl
 }
 rotate_left
 {
 simp only [Act.put, List.setIfInBounds_toArray, List.set_cons_zero, List.set_cons_succ, i64_w, i32_w]
 rfl
 }
 refine pure_ (i := 13) (N := some 48) (v := ?_) (a' := ?_) #[true, true, true, true, true, true, true, true, true, true, true, true, true, true, false, false] rfl rfl (any_of HT_.out (by kernel_rfl)) (fun _ _ _ h => h) (Or.inl ⟨by rfl, ?_⟩) ?_ ?_
 rotate_left
 {
 intro w'
 go_simp
 with_reducible rfl
 }
 rotate_left
 {
 simp only [Act.put, List.setIfInBounds_toArray, List.set_cons_zero, List.set_cons_succ, i64_w, i32_w]
 rfl
 }
 refine pure_ (i := 14) (N := some 6) (v := ?_) (a' := ?_) #[true, true, true, true, true, true, true, true, true, true, true, true, true, true, true, false] rfl rfl (any_of HT_.out (by kernel_rfl)) (fun _ _ _ h => h) (Or.inl ⟨by rfl, ?_⟩) ?_ ?_
 rotate_left
 {
 intro w'
 go_simp
 with_reducible rfl
 }
 rotate_left
 {
 simp only [Act.put, List.setIfInBounds_toArray, List.set_cons_zero, List.set_cons_succ, i64_w, i32_w]
 rfl
 }
 refine pure_ (i := 15) (N := some 7) (v := ?_) (a' := ?_) #[true, true, true, true, true, true, true, true, true, true, true, true, true, true, true, true] rfl rfl (any_of HT_.out (by kernel_rfl)) (fun _ _ _ h => h) (Or.inl ⟨by rfl, ?_⟩) ?_ ?_
 rotate_left
 {
 intro w'
 go_simp
 with_reducible rfl
 }
 rotate_left
 {
 simp only [Act.put, List.setIfInBounds_toArray, List.set_cons_zero, List.set_cons_succ, i64_w, i32_w]
 rfl
 }
 refine done_ (done_of HT_.out (by kernel_rfl)) ?_
 try go_wp2
 go_ret2
 exact ⟨by first | rfl | (simp [errW_none, errW_some] <;> rfl) | (simp [*, errW_none, errW_some] <;> rfl), by repeat (first | (with_reducible first | exact HB.out | apply below_alloc | apply pw_below_drewN | apply below_drew1 | refine below_set ?_ GE297.out) | exact HB.out)⟩
 }
 {
 rw [if_neg c16] at H
 exact absurd H (by simp)
 }
 }
 {
 rw [if_neg c15] at H
 exact absurd H (by simp)
 }
 }
 {
 rw [if_neg c14] at H
 have c14b0 : decide (x9_1 < (l0.length : Int)) = false := decide_eq_false c14
 clear c14
 simp only [Option.some.injEq, Prod.mk.injEq] at H
 obtain ⟨rfl, rfl⟩ := H
 try go_wp2
 have n0_ := Aside0.mk (blk_drew BK297.out)
 have n1_ := Aside0.mk (below_drew1 HB.out)
 clear BK297
 clear HB
 have BK297 := n0_
 have HB := n1_
 clear n0_ n1_
 refine start_ (n := 16) (S := fun w' => True) (ds := []) #[false, false, false, false, false, false, false, false, false, false, false, false, false, false, false, false] (by kernel_rfl) rfl rfl trivial (fun hHeld => ?_); refine with_tabW impl_Turn_48_at_impl_compareTurns.tab8 impl_Turn_48_at_impl_compareTurns.bits8 (fun HT_ HW_ => ?_)
 generalize wr.drew = w20 at BK297 HB hHeld ⊢
 refine pure_ (i := 0) (N := some 35) (v := ?_) (a' := ?_) #[true, false, false, false, false, false, false, false, false, false, false, false, false, false, false, false] rfl rfl (any_of HT_.out (by kernel_rfl)) (fun _ _ _ h => h) (Or.inl ⟨by rfl, ?_⟩) ?_ ?_
 rotate_left
 {
 intro w'
 go_simp
 with_reducible rfl
 }
 rotate_left
 {
 simp only [Act.put, List.setIfInBounds_toArray, List.set_cons_zero, List.set_cons_succ, i64_w, i32_w]
 rfl
 }
 refine pure_ (i := 1) (N := some 36) (v := ?_) (a' := ?_) #[true, true, false, false, false, false, false, false, false, false, false, false, false, false, false, false] rfl rfl (any_of HT_.out (by kernel_rfl)) (fun _ _ _ h => h) (Or.inl ⟨by rfl, ?_⟩) ?_ ?_
 rotate_left
 {
 intro w'
 go_simp
 with_reducible rfl
 }
 rotate_left
 {
 simp only [Act.put, List.setIfInBounds_toArray, List.set_cons_zero, List.set_cons_succ, i64_w, i32_w]
 rfl
 }
 refine pure_ (i := 2) (N := some 37) (v := ?_) (a' := ?_) #[true, true, true, false, false, false, false, false, false, false, false, false, false, false, false, false] rfl rfl (any_of HT_.out (by kernel_rfl)) (fun _ _ _ h => h) (Or.inl ⟨by rfl, ?_⟩) ?_ ?_
 rotate_left
 {
 intro w'
 go_simp
 with_reducible rfl
 }
 rotate_left
 {
 simp only [Act.put, List.setIfInBounds_toArray, List.set_cons_zero, List.set_cons_succ, i64_w, i32_w]
 rfl
 }
 refine pure_ (i := 3) (N := some 38) (v := ?_) (a' := ?_) #[true, true, true, true, false, false, false, false, false, false, false, false, false, false, false, false] rfl rfl (any_of HT_.out (by kernel_rfl)) (fun _ _ _ h => h) (Or.inl ⟨by rfl, ?_⟩) ?_ ?_
 rotate_left
 {
 intro w'
 go_simp
 with_reducible rfl
 }
 rotate_left
 {
 simp only [Act.put, List.setIfInBounds_toArray, List.set_cons_zero, List.set_cons_succ, i64_w, i32_w]
 rfl
 }
 refine pure_ (i := 4) (N := some 39) (v := ?_) (a' := ?_) #[true, true, true, true, true, false, false, false, false, false, false, false, false, false, false, false] rfl rfl (any_of HT_.out (by kernel_rfl)) (fun _ _ _ h => h) (Or.inl ⟨by rfl, ?_⟩) ?_ ?_
 rotate_left
 {
 intro w'
 go_simp
 with_reducible rfl
 }
 rotate_left
 {
 simp only [Act.put, List.setIfInBounds_toArray, List.set_cons_zero, List.set_cons_succ, i64_w, i32_w]
 rfl
 }
 refine pure_ (i := 5) (N := some 40) (v := undef) (a' := ?_) #[true, true, true, true, true, true, false, false, false, false, false, false, false, false, false, false] rfl rfl (any_of HT_.out (by kernel_rfl)) (fun _ _ _ h => h) (Or.inr ⟨by rfl, rfl⟩) ?_ ?_
 rotate_left
 {
 simp only [Act.put, List.setIfInBounds_toArray, List.set_cons_zero, List.set_cons_succ, i64_w, i32_w]
 rfl
 }
 refine pure_ (i := 6) (N := some 41) (v := undef) (a' := ?_) #[true, true, true, true, true, true, true, false, false, false, false, false, false, false, false, false] rfl rfl (any_of HT_.out (by kernel_rfl)) (fun _ _ _ h => h) (Or.inr ⟨by rfl, rfl⟩) ?_ ?_
 rotate_left
 {
 simp only [Act.put, List.setIfInBounds_toArray, List.set_cons_zero, List.set_cons_succ, i64_w, i32_w]
 rfl
 }
 refine pure_ (i := 7) (N := some 42) (v := undef) (a' := ?_) #[true, true, true, true, true, true, true, true, false, false, false, false, false, false, false, false] rfl rfl (any_of HT_.out (by kernel_rfl)) (fun _ _ _ h => h) (Or.inr ⟨by rfl, rfl⟩) ?_ ?_
 rotate_left
 {
 simp only [Act.put, List.setIfInBounds_toArray, List.set_cons_zero, List.set_cons_succ, i64_w, i32_w]
 rfl
 }
 refine pure_ (i := 8) (N := some 43) (v := undef) (a' := ?_) #[true, true, true, true, true, true, true, true, true, false, false, false, false, false, false, false] rfl rfl (any_of HT_.out (by kernel_rfl)) (fun _ _ _ h => h) (Or.inr ⟨by rfl, rfl⟩) ?_ ?_
 rotate_left
 {
 simp only [Act.put, List.setIfInBounds_toArray, List.set_cons_zero, List.set_cons_succ, i64_w, i32_w]
 rfl
 }
 refine pure_ (i := 9) (N := some 44) (v := undef) (a' := ?_) #[true, true, true, true, true, true, true, true, true, true, false, false, false, false, false, false] rfl rfl (any_of HT_.out (by kernel_rfl)) (fun _ _ _ h => h) (Or.inr ⟨by rfl, rfl⟩) ?_ ?_
 rotate_left
 {
 simp only [Act.put, List.setIfInBounds_toArray, List.set_cons_zero, List.set_cons_succ, i64_w, i32_w]
 rfl
 }
 refine pure_ (i := 10) (N := some 45) (v := undef) (a' := ?_) #[true, true, true, true, true, true, true, true, true, true, true, false, false, false, false, false] rfl rfl (any_of HT_.out (by kernel_rfl)) (fun _ _ _ h => h) (Or.inr ⟨by rfl, rfl⟩) ?_ ?_
 rotate_left
 {
 simp only [Act.put, List.setIfInBounds_toArray, List.set_cons_zero, List.set_cons_succ, i64_w, i32_w]
 rfl
 }
 refine pure_ (i := 11) (N := some 46) (v := undef) (a' := ?_) #[true, true, true, true, true, true, true, true, true, true, true, true, false, false, false, false] rfl rfl (any_of HT_.out (by kernel_rfl)) (fun _ _ _ h => h) (Or.inr ⟨by rfl, rfl⟩) ?_ ?_
 rotate_left
 {
 simp only [Act.put, List.setIfInBounds_toArray, List.set_cons_zero, List.set_cons_succ, i64_w, i32_w]
 rfl
 }
 refine pure_ (i := 12) (N := some 47) (v := undef) (a' := ?_) #[true, true, true, true, true, true, true, true, true, true, true, true, true, false, false, false] rfl rfl (any_of HT_.out (by kernel_rfl)) (fun _ _ _ h => h) (Or.inr ⟨by rfl, rfl⟩) ?_ ?_
 rotate_left
 {
 simp only [Act.put, List.setIfInBounds_toArray, List.set_cons_zero, List.set_cons_succ, i64_w, i32_w]
 rfl
 }
 refine pure_ (i := 13) (N := some 48) (v := ?_) (a' := ?_) #[true, true, true, true, true, true, true, true, true, true, true, true, true, true, false, false] rfl rfl (any_of HT_.out (by kernel_rfl)) (fun _ _ _ h => h) (Or.inl ⟨by rfl, ?_⟩) ?_ ?_
 rotate_left
 {
 intro w'
 go_simp
 with_reducible rfl
 }
 rotate_left
 {
 simp only [Act.put, List.setIfInBounds_toArray, List.set_cons_zero, List.set_cons_succ, i64_w, i32_w]
 rfl
 }
 refine pure_ (i := 14) (N := some 6) (v := ?_) (a' := ?_) #[true, true, true, true, true, true, true, true, true, true, true, true, true, true, true, false] rfl rfl (any_of HT_.out (by kernel_rfl)) (fun _ _ _ h => h) (Or.inl ⟨by rfl, ?_⟩) ?_ ?_
 rotate_left
 {
 intro w'
 go_simp
 with_reducible rfl
 }
 rotate_left
 {
 simp only [Act.put, List.setIfInBounds_toArray, List.set_cons_zero, List.set_cons_succ, i64_w, i32_w]
 rfl
 }
 refine pure_ (i := 15) (N := some 7) (v := ?_) (a' := ?_) #[true, true, true, true, true, true, true, true, true, true, true, true, true, true, true, true] rfl rfl (any_of HT_.out (by kernel_rfl)) (fun _ _ _ h => h) (Or.inl ⟨by rfl, ?_⟩) ?_ ?_
 rotate_left
 {
 intro w'
 go_simp
 with_reducible rfl
 }
 rotate_left
 {
 simp only [Act.put, List.setIfInBounds_toArray, List.set_cons_zero, List.set_cons_succ, i64_w, i32_w]
 rfl
 }
 refine done_ (done_of HT_.out (by kernel_rfl)) ?_
 try go_wp2
 go_ret2
 exact ⟨by first | rfl | (simp [errW_none, errW_some] <;> rfl) | (simp [*, errW_none, errW_some] <;> rfl), by repeat (first | (with_reducible first | exact HB.out | apply below_alloc | apply pw_below_drewN | apply below_drew1 | refine below_set ?_ GE297.out) | exact HB.out)⟩
 }
 }
  }
  }
end Go.Proofs.Ytcgkmdmbjffipaa.P
namespace Go.Proofs.Ytcgkmdmbjffipaa.P
open Go.RowKit Go.Proofs.YtcgkmdmbjffipaaW.PrintWords Go.Proofs.YtcgkmdmbjffipaaW.PrintLast Go.Proofs.YtcgkmdmbjffipaaW.PrintMore
set_option linter.unusedVariables false
set_option linter.unusedSimpArgs false
namespace ins36
theorem isSome_setCells (b : Nat) (vs : List Value) (o : Nat) (w : World) (h : ∀ j, j < vs.length → (w.cell? ⟨b, o + j, none⟩).isSome = true) (k : Nat) (hk : (w.cell? ⟨b, k, none⟩).isSome = true) : ((w.setCells b o vs).cell? ⟨b, k, none⟩).isSome = true := by
  by_cases hin : o ≤ k ∧ k < o + vs.length
  · have := World.cell?_setCells_in b vs o w h (k - o) (by omega)
    rw [show o + (k - o) = k by omega] at this
    rw [this]; rfl
  · rw [World.cell?_setCells_out b vs o w ⟨b, k, none⟩ (fun _ _ => by show k < o ∨ o + vs.length ≤ k; omega)]
    exact hk
theorem wpList_copy_runI {P : Program} (w : World) {ops : Array Oper} {rest : List Oper} {o : Oper} {a : Act} {Q : Exit → Act → World → Prop} (hgd : o.guard = none) (d s : Operand) (t t' : TypeId)
    (ho : o.op = .call { callee := .builtin .copy, args := #[d, s], argTypes := #[t, t'] }) (v u : Value) (hd : a.eval d = v) (hs : a.eval s = u) {v' : Value} {w' : World}
    (hr : (Builtin.copy_ #[t, t'] o.type #[v, u]).run P w = .ok v' w') (h : wpList P ops Q rest (a.put o.dst v') w') : wpList P ops Q (o :: rest) a w := by
  refine wpList_plain hgd fun K hK => ?_
  unfold Oper.wp execOp
  simp only [ho, resolve, invoke, builtin, Sem.run_bind, Sem.run_pure, Result.andThen_ok, List.map_toArray, List.map_cons, List.map_nil, hd, hs, hr]
  exact hK _ _ h
theorem step_copy_runI {P : Program} {ops : Array Oper} {o : Oper} {a : Act} {w : World} {K : Act → World → Prop} {Q : Exit → Act → World → Prop} {E : Prop}
    (hg : o.guard = none) (d x : Operand) (dT sT : TypeId) (hop : o.op = Op.call { callee := Callee.builtin Builtin.copy, args := #[d, x], argTypes := #[dT, sT] })
    (v u : Value) (hd : a.eval d = v) (hx : a.eval x = u) {v' : Value} {w' : World} (hr : (Builtin.copy_ #[dT, sT] o.type #[v, u]).run P w = .ok v' w') (hK : K (a.put o.dst v') w') :
    if Region.wanted o (yielded ops a.tmps) = true then Oper.wp P o a w K Q else E := by
  have hw : Region.wanted o (yielded ops a.tmps) = true := by simp [Region.wanted, hg]
  rw [if_pos hw]
  unfold Oper.wp
  simp [execOp, hop, resolve, invoke, builtin, hd, hx, hr, Result.andThen]
  exact hK
theorem cell_in {w : World} {b e : Nat} {cur : Array Value} (h : w.heap[b]? = some (.cells cur e (0, 0))) (j : Nat) (hj : j < cur.size) : w.cell? ⟨b, j, none⟩ = some cur[j] := by
  rw [cell_of_row w b j cur e (0, 0) h, Array.getElem?_eq_getElem hj]
theorem cell_take {w : World} {b e m : Nat} {cur : Array Value} {cs : List Value} (h : w.heap[b]? = some (.cells cur e (0, 0))) (ht : cur.toList.take m = cs) (j : Nat) (v : Value) (hj : cs[j]? = some v) : w.cell? ⟨b, j, none⟩ = some v := by
  rw [cell_of_row w b j cur e (0, 0) h, ← hj, ← ht, List.getElem?_take]
  split
  · simp
  · rename_i hlt
    rw [← ht, List.getElem?_take, if_neg hlt] at hj
    cases hj
theorem size36 : ∀ w, (Go.sizeOf 36).run Try.prog w = .ok 3 w := by
  obtain ⟨i0, hi0, h0, h1, h2⟩ := info_parts info36
  intro w
  simp [Go.sizeOf, typeInfo, hi0, h1]
set_option maxHeartbeats 4000000 in
set_option maxRecDepth 100000 in
/-- There is room: in place. -/
theorem room (w : World) (g n c i vb vc : Nat) (cur vcur : Array Value) (cs vs : List Value) (hi : i < n) (hnc : n + 1 ≤ c) (hcm : c ≤ maxLen)
    (hg : w.heap[g]? = some (.cells cur 36 (0, 0))) (hcs : cur.size = c * 3) (htake : cur.toList.take (n * 3) = cs)
    (hv : w.heap[vb]? = some (.cells vcur 36 (0, 0))) (hvt : vcur.toList.take 3 = vs) (hvl : vs.length = 3) (hne : vb ≠ g)
    (h1c : ∀ v ∈ cs, v.oneCell' = true) (h1v : ∀ v ∈ vs, v.oneCell' = true) :
    Calls Try.prog 50 #[.slice (some ⟨g, 0, none⟩) n c, .int .i64 (i : Int), .slice (some ⟨vb, 0, none⟩) 1 vc] w fun e w' =>
      e = .returned (.slice (some ⟨g, 0, none⟩) (n + 1) c) ∧ w' = (w.drew.setCells g ((i + 1) * 3) (cs.drop (i * 3))).setCells g (i * 3) vs := by
  obtain ⟨i0, hi0, hzr, hsz, hby⟩ := info_parts info36
  have hcm' : c ≤ 9223372036854775807 := by unfold maxLen at hcm; omega
  have hel : Program.elem Try.prog 24 = 36 := by simp [Program.elem, Try.underlying24]
  have hU : Try.prog.underlying 24 = some (.slice (Program.elem Try.prog 24)) := by rw [hel]; exact Try.underlying24
  have hsz' : (Try.prog.info? 36).map (·.size) = some 3 := by rw [hi0]; simp [hsz]
  have hcl : cs.length = n * 3 := by rw [← htake, List.length_take, Array.length_toList, hcs]; omega
  have hvs : 3 ≤ vcur.size := by have := congrArg List.length hvt; rw [List.length_take, Array.length_toList, hvl] at this; omega
  have hsl1 : ∀ W : World, (Instr.slice 24 (.slice (some ⟨g, 0, none⟩) n c) (some (.int .i64 (i : Int))) none none).run Try.prog W = .ok (.slice (if c = (i : Int).toNat then some ⟨g, 0, none⟩ else (some (⟨g, 0, none⟩ : Addr)).map (·.add ((i : Int).toNat * 3))) (n - (i : Int).toNat) (c - (i : Int).toNat)) W :=
    cut_from (P := Try.prog) 24 36 .i64 Try.underlying24 hi0 3 hsz _ n c _ (by omega) (by omega)
  have hsl2 : ∀ W : World, (Instr.slice 24 (.slice (some ⟨g, 0, none⟩) n c) none (some (.int .i64 ((n : Int) + 1))) none).run Try.prog W = .ok (.slice (some ⟨g, 0, none⟩) (n + 1) c) W := fun W => by
    rw [run_slice_h W 24 (some ⟨g, 0, none⟩) n c hU .i64 _ (by omega) (by omega), hel]
    have : ((n : Int) + 1).toNat = n + 1 := by omega
    simp [sizeOf, typeInfo, hi0, sliced, Result.andThen, Addr.add, this]
  have hsl3 : ∀ W : World, (Instr.slice 24 (.slice (some ⟨g, 0, none⟩) (n + 1) c) (some (.int .i64 ((i : Int) + 1))) none none).run Try.prog W = .ok (.slice (some ⟨g, (i + 1) * 3, none⟩) (n - i) (c - (i + 1))) W := fun W => by
    rw [cut_from (P := Try.prog) 24 36 .i64 Try.underlying24 hi0 3 hsz (some ⟨g, 0, none⟩) (n + 1) c ((i : Int) + 1) (by omega) (by omega) W]
    have h1 : ((i : Int) + 1).toNat = i + 1 := by omega
    rw [h1, if_neg (by omega)]
    simp [Addr.add] <;> omega
  have hsl4 : ∀ W : World, (Instr.slice 24 (.slice (some ⟨g, 0, none⟩) (n + 1) c) (some (.int .i64 (i : Int))) none none).run Try.prog W = .ok (.slice (some ⟨g, i * 3, none⟩) (n + 1 - i) (c - i)) W := fun W => by
    rw [cut_from (P := Try.prog) 24 36 .i64 Try.underlying24 hi0 3 hsz (some ⟨g, 0, none⟩) (n + 1) c (i : Int) (by omega) (by omega) W]
    rw [Int.toNat_natCast, if_neg (by omega)]
    simp [Addr.add] <;> omega
  have hov : ∀ lb cb, (callFunc 100 #[.slice (some ⟨vb, 0, none⟩) 1 vc, .slice (some ⟨g, (i + 1) * 3, none⟩) lb cb]).run Try.prog w = .ok (.value (.bool false)) w := fun lb cb => by
    rw [run_callFunc_extern Try.func100 (by kernel_rfl) (by kernel_rfl) (by kernel_rfl) (e := Extern.SlicesOverlaps.overlaps #[24, 24] #[4]) (by kernel_rfl),
      Lib.run_overlaps_apart w 24 4 36 Try.underlying24 3 size36 ⟨vb, 0, none⟩ ⟨g, (i + 1) * 3, none⟩ 1 vc lb cb hne 36 36 vcur.size cur.size (by simp [World.shape?, hv]) (by simp [World.shape?, hg]) (by omega) (blk_frozen hv _) (blk_frozen hv _)]
    rfl
  have hdl : (cs.drop (i * 3)).length = n * 3 - i * 3 := by rw [List.length_drop, hcl]
  have hsome : ∀ j, j < c * 3 → (w.cell? ⟨g, j, none⟩).isSome = true := fun j hj => by rw [cell_in hg j (by omega)]; rfl
  have hcp1 : ∀ ty dc sc, (Builtin.copy_ #[24, 24] ty #[.slice (some ⟨g, (i + 1) * 3, none⟩) (n - i) dc, .slice (some ⟨g, i * 3, none⟩) (n + 1 - i) sc]).run Try.prog w.drew = .ok (goInt (Nat.min (n + 1 - i) (n - i))) (w.drew.setCells g ((i + 1) * 3) (cs.drop (i * 3))) := fun ty dc sc =>
    run_copy_cellsK 3 w.drew 24 24 ty 36 g ((i + 1) * 3) (n - i) dc ⟨g, i * 3, none⟩ (n + 1 - i) sc (cs.drop (i * 3)) Try.underlying24 hsz' (by rw [hdl]; simp only [Nat.min_def]; split <;> omega)
      (fun j v hj => by rw [Addr.add_lit]; exact cell_take hg htake (i * 3 + j) v (by rwa [List.getElem?_drop] at hj))
      (fun j hj => hsome _ (by rw [hdl] at hj; omega)) (fun j hj => blk_frozen hg _) (fun v hv => h1c v (List.mem_of_mem_drop hv))
  obtain ⟨W1, hW1⟩ : ∃ W1, W1 = w.drew.setCells g ((i + 1) * 3) (cs.drop (i * 3)) := ⟨_, rfl⟩
  have hsp1 : ∀ k, k < c * 3 → (W1.cell? ⟨g, k, none⟩).isSome = true := fun k hk => by
    rw [hW1]
    refine isSome_setCells g (cs.drop (i * 3)) ((i + 1) * 3) _ (fun j hj => ?_) _ (hsome k hk)
    rw [hdl] at hj
    exact hsome _ (by omega)
  have hcp2 : ∀ (W : World), (∀ x, W.cell? x = W1.cell? x) → (∀ x, W.frozen? x = W1.frozen? x) → ∀ ty dc, (Builtin.copy_ #[24, 24] ty #[.slice (some ⟨g, i * 3, none⟩) (n + 1 - i) dc, .slice (some ⟨vb, 0, none⟩) 1 vc]).run Try.prog W = .ok (goInt (Nat.min 1 (n + 1 - i))) (W.setCells g (i * 3) vs) := fun W hWc hWf ty dc =>
    run_copy_cellsK 3 W 24 24 ty 36 g (i * 3) (n + 1 - i) dc ⟨vb, 0, none⟩ 1 vc vs Try.underlying24 hsz' (by rw [hvl]; simp only [Nat.min_def]; split <;> omega)
      (fun j v hj => by
        rw [Addr.add_lit, hWc, hW1, World.cell?_setCells_out g _ _ _ _ (fun h _ => absurd h hne), Nat.zero_add]
        exact cell_take hv hvt j v hj)
      (fun j hj => by rw [hWc]; exact hsp1 _ (by omega)) (fun j hj => by rw [hWf, hW1, World.frozen?_setCells]; exact blk_frozen hg _) h1v
  rw [← hW1] at hcp1
  have hz2 : ((i : Int) == (n : Int)) = false := by simp; omega
  have hz3 : decide ((n : Int) + 1 > (c : Int)) = false := by simp; omega
  have hz4 : decide ((c : Int) < (n : Int) + 1) = false := by simp; omega
  have hz2' : ¬ ((i : Int) = (n : Int)) := by omega
  have hz3' : ¬ ((c : Int) < (n : Int) + 1) := by omega
  have mixed : Try.prog.follows Departure.mixedOrders = true := by kernel_rfl
  have hw1 : IntKind.i64.wrap ((i : Int) + 1) = (i : Int) + 1 := by rw [IntKind.wrap_i64]; omega
  have hb1 : (0 : Int) ≤ (i : Int) + 1 := by omega
  have hin : i ≤ n := by omega
  have htn : ((i : Int) + 1).toNat = i + 1 := by omega
  have hb2 : ¬ (c = i + 1) := by omega
  have hb3 : (i : Int) ≤ (n : Int) + 1 := by omega
  have hb4 : ¬ (c = i) := by omega
  have hb5 : (i : Int) + 1 ≤ (n : Int) + 1 := by omega
  clear hU hel
  go_enter Try.func50, Try.ntmps50
  go_wp2_with (simp only [hov])
  go_region_law_o (refine step_copy_runI rfl _ _ 24 24 rfl _ _ (by simp [Act.eval, Act.put]) (by simp [Act.eval, Act.put]) (hcp1 _ _ _) ?_)
  go_wp2_with (at_builtin; refine wpList_copy_runI _ rfl _ _ 24 24 rfl _ _ rfl rfl (hcp2 _ (fun _ => rfl) (fun _ => rfl) _ _) ?_)
  go_ret
  first | exact ⟨rfl, rfl⟩ | exact ⟨rfl, by rw [hW1]⟩
set_option maxHeartbeats 4000000 in
set_option maxRecDepth 100000 in
/-- There is no room: a new row. -/
theorem grow (w : World) (g n c i vb vc : Nat) (cur vcur : Array Value) (cs vs : List Value) (hi : i < n) (hnc : n ≤ c) (hroom : c < n + 1) (hbig : (n + 1) * 32 ≤ 140737488355328)
    (hg : w.heap[g]? = some (.cells cur 36 (0, 0))) (hcs : cur.size = c * 3) (htake : cur.toList.take (n * 3) = cs)
    (hv : w.heap[vb]? = some (.cells vcur 36 (0, 0))) (hvt : vcur.toList.take 3 = vs) (hvl : vs.length = 3)
    (h1c : ∀ v ∈ cs, v.oneCell' = true) (h1v : ∀ v ∈ vs, v.oneCell' = true) :
    Calls Try.prog 50 #[.slice (some ⟨g, 0, none⟩) n c, .int .i64 (i : Int), .slice (some ⟨vb, 0, none⟩) 1 vc] w fun e w' =>
      e = .returned (.slice (some ⟨w.heap.size, 0, none⟩) (n + 1) (grownCap w (n + 1) c 36)) ∧
      w' = (((w.alloc (.cells ((cs.take (i * 3)).toArray ++ Builtin.zeroCells (.agg #[(.string ⟨#[]⟩), (.int .i64 0), (.int .i64 0)] : Value).cells (n + 1 - i) ++ Builtin.zeroCells (.agg #[(.string ⟨#[]⟩), (.int .i64 0), (.int .i64 0)] : Value).cells (grownCap w (n + 1) c 36 - (n + 1))) 36)).drew.setCells w.heap.size (i * 3) vs).drew).setCells w.heap.size ((i + 1) * 3) (cs.drop (i * 3)) := by
  obtain ⟨i0, hi0, hzr, hsz, hby⟩ := info_parts info36
  have hel : Program.elem Try.prog 24 = 36 := by simp [Program.elem, Try.underlying24]
  have hU : Try.prog.underlying 24 = some (.slice (Program.elem Try.prog 24)) := by rw [hel]; exact Try.underlying24
  have hsz' : (Try.prog.info? 36).map (·.size) = some 3 := by rw [hi0]; simp [hsz]
  have hcl : cs.length = n * 3 := by rw [← htake, List.length_take, Array.length_toList, hcs]; omega
  have hvs : 3 ≤ vcur.size := by have := congrArg List.length hvt; rw [List.length_take, Array.length_toList, hvl] at this; omega
  have hcell : ∀ j v, cs[j]? = some v → w.cell? ⟨g, j, none⟩ = some v := fun j v hj => cell_take hg htake j v hj
  have hvcell : ∀ j v, vs[j]? = some v → w.cell? ⟨vb, j, none⟩ = some v := fun j v hj => cell_take hv hvt j v hj
  have hbw : g < w.heap.size := (Array.getElem?_eq_some_iff.1 hg).1
  have hvw : vb < w.heap.size := (Array.getElem?_eq_some_iff.1 hv).1
  have hsl1 : ∀ W : World, (Instr.slice 24 (.slice (some ⟨g, 0, none⟩) n c) (some (.int .i64 (i : Int))) none none).run Try.prog W = .ok (.slice (some ⟨g, i * 3, none⟩) (n - i) (c - i)) W := fun W => by
    rw [cut_from (P := Try.prog) 24 36 .i64 Try.underlying24 hi0 3 hsz (some ⟨g, 0, none⟩) n c (i : Int) (by omega) (by omega) W]
    rw [Int.toNat_natCast, if_neg (by omega)]
    simp [Addr.add] <;> omega
  have hsl2 : ∀ W : World, (Instr.slice 24 (.slice (some ⟨g, 0, none⟩) n c) none (some (.int .i64 (i : Int))) none).run Try.prog W = .ok (.slice (some ⟨g, 0, none⟩) i c) W := fun W => by
    have h := cut_to (P := Try.prog) 24 36 .i64 Try.underlying24 hi0 (some ⟨g, 0, none⟩) n c (i : Int) (by omega) (by omega) hnc W
    rwa [Int.toNat_natCast] at h
  have hkk : (n : Int) + 1 - (i : Int) = ((n + 1 - i : Nat) : Int) := by omega
  have hik : i + (n + 1 - i) = n + 1 := by omega
  have hold : (Builtin.firstCells i0.size i (.slice (some ⟨g, 0, none⟩) i c)).run Try.prog w.drew = .ok (cs.take (i * 3)).toArray w.drew := by
    rw [hsz]
    exact run_firstCells_some w.drew 3 i ⟨g, 0, none⟩ i c (cs.take (i * 3)) (by rw [List.length_take]; omega) (fun j v hj => by
      rw [Addr.add_lit, Nat.zero_add]
      rw [List.getElem?_take] at hj
      split at hj
      · exact hcell j v hj
      · cases hj)
  have hrz : ∀ ty, (Builtin.append_ #[24, 3] ty #[.slice (some ⟨g, 0, none⟩) i c, .int .i64 ((n : Int) + 1 - (i : Int))]).run Try.prog w =
      .ok (.slice (some ⟨w.heap.size, 0, none⟩) (n + 1) (grownCap w (n + 1) c 36)) (w.drew.alloc (.cells ((cs.take (i * 3)).toArray ++ Builtin.zeroCells (.agg #[(.string ⟨#[]⟩), (.int .i64 0), (.int .i64 0)] : Value).cells (n + 1 - i) ++ Builtin.zeroCells (.agg #[(.string ⟨#[]⟩), (.int .i64 0), (.int .i64 0)] : Value).cells (grownCap w (n + 1) c 36 - (n + 1))) 36)) := fun ty => by
    have h := Lib.run_append_grow_zeros (P := Try.prog) w 24 3 ty 36 i0 _ .i64 .i64 Try.underlying24 Try.underlying3 hi0 hzr (some ⟨g, 0, none⟩) i c (cs.take (i * 3)) hold (n + 1 - i) (by omega) (by omega) (by omega) (by omega) (by rw [hby]; omega) (by rw [hby, hik]; exact growslice_fits hroom hbig)
    rw [hik] at h
    rw [hkk]
    exact h
  have hGn : n + 1 ≤ grownCap w (n + 1) c 36 := grownCap_ge w _ _ _
  have hG63 : grownCap w (n + 1) c 36 ≤ 9223372036854775807 := by
    have := grownCap_le_maxLen w (n + 1) c 36 (by unfold maxLen; omega)
    unfold maxLen at this
    omega
  obtain ⟨G, hG⟩ : ∃ G, G = grownCap w (n + 1) c 36 := ⟨_, rfl⟩
  rw [← hG] at hrz hGn hG63 ⊢
  obtain ⟨ROW, hROW⟩ : ∃ ROW : Array Value, ROW = (cs.take (i * 3)).toArray ++ Builtin.zeroCells (.agg #[(.string ⟨#[]⟩), (.int .i64 0), (.int .i64 0)] : Value).cells (n + 1 - i) ++ Builtin.zeroCells (.agg #[(.string ⟨#[]⟩), (.int .i64 0), (.int .i64 0)] : Value).cells (G - (n + 1)) := ⟨_, rfl⟩
  rw [← hROW] at hrz ⊢
  have hRl : (n + 1) * 3 ≤ ROW.size := by
    rw [hROW]
    simp [Builtin.zeroCells, Value.cells, hcl]
    omega
  obtain ⟨W1, hW1⟩ : ∃ W1, W1 = w.drew.alloc (.cells ROW 36) := ⟨_, rfl⟩
  rw [← hW1] at hrz
  have hN : ∀ j, j < (n + 1) * 3 → (W1.cell? ⟨w.heap.size, j, none⟩).isSome = true := fun j hj => by
    rw [hW1, World.cell?_alloc_at (w := w.drew) ROW _ w.heap.size j rfl, Array.getElem?_eq_getElem (by omega)]; rfl
  have hNf : ∀ j, W1.frozen? ⟨w.heap.size, j, none⟩ = false := fun j => by rw [hW1]; exact World.frozen?_alloc_at (w := w.drew) ROW _ w.heap.size j rfl
  have hOb : ∀ j v, w.cell? ⟨g, j, none⟩ = some v → W1.cell? ⟨g, j, none⟩ = some v := fun j v h => by rw [hW1, World.cell?_alloc_past (w := w.drew) _ g j hbw]; exact h
  have hOv : ∀ j v, w.cell? ⟨vb, j, none⟩ = some v → W1.cell? ⟨vb, j, none⟩ = some v := fun j v h => by rw [hW1, World.cell?_alloc_past (w := w.drew) _ vb j hvw]; exact h
  have hsl3 : ∀ W : World, (Instr.slice 24 (.slice (some ⟨w.heap.size, 0, none⟩) (n + 1) G) (some (.int .i64 (i : Int))) none none).run Try.prog W = .ok (.slice (some ⟨w.heap.size, i * 3, none⟩) (n + 1 - i) (G - i)) W := fun W => by
    rw [cut_from (P := Try.prog) 24 36 .i64 Try.underlying24 hi0 3 hsz (some ⟨w.heap.size, 0, none⟩) (n + 1) G (i : Int) (by omega) (by omega) W]
    rw [Int.toNat_natCast, if_neg (by omega)]
    simp [Addr.add] <;> omega
  have hcpA : ∀ (W : World), (∀ x, W.cell? x = W1.cell? x) → (∀ x, W.frozen? x = W1.frozen? x) → ∀ ty dc, (Builtin.copy_ #[24, 24] ty #[.slice (some ⟨w.heap.size, i * 3, none⟩) (n + 1 - i) dc, .slice (some ⟨vb, 0, none⟩) 1 vc]).run Try.prog W = .ok (goInt (Nat.min 1 (n + 1 - i))) (W.setCells w.heap.size (i * 3) vs) := fun W hWc hWf ty dc =>
    run_copy_cellsK 3 W 24 24 ty 36 w.heap.size (i * 3) (n + 1 - i) dc ⟨vb, 0, none⟩ 1 vc vs Try.underlying24 hsz' (by rw [hvl]; simp only [Nat.min_def]; split <;> omega)
      (fun j v hj => by rw [Addr.add_lit, hWc, Nat.zero_add]; exact hOv _ v (hvcell j v hj))
      (fun j hj => by rw [hWc]; exact hN _ (by omega)) (fun j hj => by rw [hWf]; exact hNf _) h1v
  have hbN : g ≠ w.heap.size := by omega
  have hdl : (cs.drop (i * 3)).length = n * 3 - i * 3 := by rw [List.length_drop, hcl]
  have hcpB : ∀ (W : World), (∀ x, W.cell? x = (W1.setCells w.heap.size (i * 3) vs).cell? x) → (∀ x, W.frozen? x = (W1.setCells w.heap.size (i * 3) vs).frozen? x) → ∀ ty dc sc, (Builtin.copy_ #[24, 24] ty #[.slice (some ⟨w.heap.size, (i + 1) * 3, none⟩) (n - i) dc, .slice (some ⟨g, i * 3, none⟩) (n - i) sc]).run Try.prog W = .ok (goInt (Nat.min (n - i) (n - i))) (W.setCells w.heap.size ((i + 1) * 3) (cs.drop (i * 3))) := fun W hWc hWf ty dc sc =>
    run_copy_cellsK 3 W 24 24 ty 36 w.heap.size ((i + 1) * 3) (n - i) dc ⟨g, i * 3, none⟩ (n - i) sc (cs.drop (i * 3)) Try.underlying24 hsz' (by rw [hdl]; simp only [Nat.min_def]; split <;> omega)
      (fun j v hj => by
        rw [Addr.add_lit, hWc, World.cell?_setCells_out _ _ _ _ _ (fun h _ => absurd h hbN)]
        exact hOb _ v (hcell (i * 3 + j) v (by rwa [List.getElem?_drop] at hj)))
      (fun j hj => by
        rw [hWc]
        rw [hdl] at hj
        exact isSome_setCells _ _ _ _ (fun t ht => hN _ (by omega)) _ (hN _ (by omega)))
      (fun j hj => by rw [hWf, World.frozen?_setCells]; exact hNf _) (fun v hv => h1c v (List.mem_of_mem_drop hv))
  subst hW1
  have hE1 : ∀ x, ((w.alloc (.cells ROW 36)).drew).cell? x = (w.drew.alloc (.cells ROW 36)).cell? x := fun x => rfl
  have hE2 : ∀ x, ((w.alloc (.cells ROW 36)).drew).frozen? x = (w.drew.alloc (.cells ROW 36)).frozen? x := fun x => rfl
  have hF1 : ∀ x, (((w.alloc (.cells ROW 36)).drew.setCells w.heap.size (i * 3) vs).drew).cell? x = ((w.drew.alloc (.cells ROW 36)).setCells w.heap.size (i * 3) vs).cell? x := fun x => rfl
  have hF2 : ∀ x, (((w.alloc (.cells ROW 36)).drew.setCells w.heap.size (i * 3) vs).drew).frozen? x = ((w.drew.alloc (.cells ROW 36)).setCells w.heap.size (i * 3) vs).frozen? x := fun x => rfl
  have mixed : Try.prog.follows Departure.mixedOrders = true := by kernel_rfl
  have hw1 : IntKind.i64.wrap ((i : Int) + 1) = (i : Int) + 1 := by rw [IntKind.wrap_i64]; omega
  have hw2 : IntKind.i64.wrap ((n : Int) + 1) = (n : Int) + 1 := by rw [IntKind.wrap_i64]; omega
  have hw3 : IntKind.i64.wrap ((n : Int) + 1 - i) = (n : Int) + 1 - i := by rw [IntKind.wrap_i64]; omega
  have hb1 : (0 : Int) ≤ (i : Int) + 1 := by omega
  have hin : i ≤ n := by omega
  have htn : ((i : Int) + 1).toNat = i + 1 := by omega
  have hb2 : ¬ (G = i + 1) := by omega
  have hb3 : (i : Int) ≤ (n : Int) := by omega
  have hb4 : ¬ (G = i) := by omega
  have hb5 : (i : Int) + 1 ≤ (n : Int) + 1 := by omega
  have hb6 : ¬ (c = i) := by omega
  have hb7 : n + 1 - (i + 1) = n - i := by omega
  have hz2 : ((i : Int) == (n : Int)) = false := by simp; omega
  have hz3 : decide ((n : Int) + 1 > (c : Int)) = true := by simp; omega
  have hz4 : decide ((c : Int) < (n : Int) + 1) = true := by simp; omega
  have hz2' : ¬ ((i : Int) = (n : Int)) := by omega
  have hz3' : ((c : Int) < (n : Int) + 1) := by omega
  clear hkk hik hold hROW hG hRl hU hel
  go_enter Try.func50, Try.ntmps50
  go_wp2_with (first
    | (at_builtin; refine Lib.wpList_append_run _ rfl _ _ _ _ rfl _ _ rfl rfl _ _ (hrz _) ?_)
    | (at_builtin; refine wpList_copy_runI _ rfl _ _ 24 24 rfl _ _ rfl rfl (hcpA _ hE1 hE2 _ _) ?_)
    | (at_builtin; refine wpList_copy_runI _ rfl _ _ 24 24 rfl _ _ rfl rfl (hcpB _ (fun _ => rfl) (fun _ => rfl) _ _ _) ?_))
  go_region_law_o (refine step_copy_runI rfl _ _ 24 24 rfl (.slice (some ⟨w.heap.size, (i + 1) * 3, none⟩) (n - i) (G - (i + 1))) (.slice (some ⟨g, i * 3, none⟩) (n - i) (c - i)) (by simp [Act.eval, Act.put]) (by simp [Act.eval, Act.put]) (hcpB _ hF1 hF2 3 (G - (i + 1)) (c - i)) ?_)
  go_wp2
  go_ret
  exact ⟨rfl, rfl⟩
end ins36
end Go.Proofs.Ytcgkmdmbjffipaa.P
namespace Go.Proofs.Ytcgkmdmbjffipaa.P
open Go.RowKit Go.Proofs.YtcgkmdmbjffipaaW.PrintWords Go.Proofs.YtcgkmdmbjffipaaW.PrintLast Go.Proofs.YtcgkmdmbjffipaaW.PrintMore
set_option linter.unusedVariables false
set_option linter.unusedSimpArgs false
def impl_Turn_50.f (l0 : List S36) (a1 : Int) (l2 : List S36) : Option (List S36) :=
  if 0 ≤ a1 ∧ a1 ≤ (l0.length : Int) ∧ l2.length = 1 ∧ l0.length < 1000000 then some (l0.take a1.toNat ++ l2 ++ l0.drop a1.toNat) else none
namespace ins36
theorem R_of_cells {α : Type} {d : Kd α} {e : Nat} {W : World} {base g n c i : Nat} {ok : Nat → Prop} {xs : List α} {inner : List Value} {cur : Array Value} {x : α} {cx : List Value} (hn : n = xs.length) (hnc : n + 1 ≤ c) (hcm : c ≤ maxLen) (hb : base ≤ g) (hok : ok g)
    (hil : inner.length = n * d.sz) (hh : W.heap[g]? = some (.cells cur e (0, 0))) (hcs : cur.size = c * d.sz) (htake : cur.toList.take ((n + 1) * d.sz) = inner.take (i * d.sz) ++ cx ++ inner.drop (i * d.sz))
    (hr : Reps (d.M W base (fun k => ok k ∧ k ≠ g)) d.sz xs inner) (hi : i ≤ n) (hx : d.M W base (fun k => ok k ∧ k ≠ g) x cx) (hcx : cx.length = d.sz) :
    d.R e W base ok (.slice (some ⟨g, 0, none⟩) (n + 1) c) (xs.take i ++ x :: xs.drop i) := by
  have e2 : (n + 1) * d.sz = n * d.sz + d.sz := Nat.succ_mul _ _
  have e4 : i * d.sz ≤ n * d.sz := Nat.mul_le_mul_right _ hi
  have hdl : (inner.drop (i * d.sz)).length = n * d.sz - i * d.sz := by rw [List.length_drop, hil]
  have hlen : (xs.take i ++ x :: xs.drop i).length = n + 1 := by simp; omega
  have hgo : ∀ m, some g = (Value.slice (some ⟨g, 0, none⟩) m c).ownBlock := fun m => by simp [Value.ownBlock]
  refine ⟨fun k hk => by rw [← hgo] at hk; injection hk with hk; subst hk; exact hok, inner.take (i * d.sz) ++ (cx ++ inner.drop (i * d.sz)), ⟨?_, .inr ⟨g, c, cur, by rw [hlen], hb, hh, by rw [hlen]; exact hnc, hcm, hcs, by rw [hlen, htake, List.append_assoc]⟩⟩, ?_⟩
  · rw [hlen, List.length_append, List.length_append, List.length_take, hdl, hcx, hil, Nat.min_eq_left e4]; omega
  · have hmv : ∀ p q, d.M W base (fun k => ok k ∧ k ≠ g) p q → d.M W base (fun k => ok k ∧ some k ≠ (Value.slice (some ⟨g, 0, none⟩) (n + 1) c).ownBlock) p q := fun p q hp =>
      d.M_mono (fun k hk => ⟨hk.1, fun he => hk.2 (by rw [← hgo] at he; injection he)⟩) hp
    exact Kd.reps_append ((Kd.reps_take hr (hn ▸ hi)).imp_ hmv) (Reps.front (hmv _ _ hx) hcx ((Kd.reps_drop hr).imp_ hmv) rfl)
theorem flat (w w' : World) (b b' : Nat) (ok ok' : Nat → Prop) (x : S36) (cs : List Value) (h : k36.M w b ok x cs) : k36.M w' b' ok' x cs := h
theorem sz : k36.sz = 3 := rfl
theorem one_of (w : World) (b : Nat) (ok : Nat → Prop) (x : S36) (cs : List Value) (h : k36.M w b ok x cs) : ∀ v ∈ cs, v.oneCell' = true := by
  have := k36_openM h
  subst this
  intro v hv
  simp at hv
  rcases hv with h | h | h <;> subst h <;> rfl
theorem ones (w : World) (b : Nat) (ok : Nat → Prop) (xs : List S36) (cs : List Value) (h : Reps (k36.M w b ok) 3 xs cs) : ∀ v ∈ cs, v.oneCell' = true := by
  intro v hv
  obtain ⟨q, hq, rfl⟩ := List.mem_iff_getElem.1 hv
  rw [h.1] at hq
  have hj : q / 3 < xs.length := by omega
  have h1 := h.2 (q / 3) _ (List.getElem?_eq_getElem hj)
  refine one_of _ _ _ _ _ h1 _ ?_
  rw [List.mem_iff_getElem?]
  refine ⟨q % 3, ?_⟩
  rw [List.getElem?_take, if_pos (by omega), List.getElem?_drop, show q / 3 * 3 + q % 3 = q by omega, List.getElem?_eq_getElem]
set_option maxHeartbeats 4000000 in
set_option maxRecDepth 100000 in
/-- At the end. -/
theorem at_end (w0 w : World) (base n c vb vc : Nat) (A : Option Addr) (ok : Nat → Prop) (l : List S36) (x : S36) (HO : Kd.R k36 36 w base ok (.slice A n c) l) (hB : Below base w0 w) (hbase : base ≤ w.heap.size) (hlen : n ≤ 1000000) (hX : Kd.C k36 w (some ⟨vb, 0, none⟩) 1 [x]) (hok : ∀ k, w.heap.size ≤ k → ok k) :
    Calls Try.prog 50 #[.slice A n c, .int .i64 (n : Int), .slice (some ⟨vb, 0, none⟩) 1 vc] w fun e w' => ∃ v1, e = .returned v1 ∧ Kd.R k36 36 w' base ok v1 (l ++ [x]) ∧ Below base w0 w' ∧ w.grownBy w' (Value.slice A n c).ownBlock := by
  obtain ⟨hn, hnc, hC⟩ := Kd.R_reads' HO
  subst hn
  obtain ⟨i0, hi0, hzr, hsz, hby⟩ := info_parts info36
  have h01 : (0 ≤ (l.length : Int)) = True := eq_true (by omega)
  have h02 : (l.length ≤ l.length) = True := eq_true (Nat.le_refl _)
  have h03 : ((l.length : Int) ≤ (l.length : Int)) = True := eq_true (Int.le_refl _)
  have hsl1 := cut_from (P := Try.prog) 24 36 .i64 Try.underlying24 hi0 3 hsz A l.length c (l.length : Int) (by omega) (by omega)
  have HO' := Aside0.mk HO
  have HX := Aside0.mk hX
  have HBb := Aside0.mk hB
  clear HO hX hC hB
  go_enter Try.func50, Try.ntmps50
  go_wp2_with ((with_reducible refine gate_builtin (b := .append) (xs := #[.tmp 23, .tmp 24]) rfl ?_); at_builtin; refine Kd.R_append_rows k36 (w0 := w0) base rfl (.tmp 23) (.tmp 24) 24 36 (.agg #[(.string ⟨#[]⟩), (.int .i64 0), (.int .i64 0)]) 32 rfl Try.underlying24 info36 rfl (by decide) (by omega) _ l [x] _ _ _ ok (fun _ => False) rfl rfl HO'.out HX.out (fun _ _ h => h) (fun _ h => h.elim) hok HBb.out hbase (by omega) ?_; intro v1 w1 ho hb hg hat)
  all_goals go_ret
  all_goals exact ⟨_, rfl, ho, hb, by cases A <;> exact hg⟩
end ins36
open ins36 in
set_option maxHeartbeats 1000000 in
theorem impl_Turn_50.calls (P0_ : Nat → Prop) (u9000_ : Value) (l0 : List (S36)) (a1 : Int) (P2_ : Nat → Prop) (u9001_ : Value) (l2 : List (S36)) (r : List (S36)) (w0 w : World) (hB : Below w0.heap.size w0 w) (ho0 : Kd.R k36 36 w w0.heap.size P0_ u9000_ l0) (hp0_2 : ∀ k_, P0_ k_ → ¬ P2_ k_) (ho2 : Kd.R k36 36 w w0.heap.size P2_ u9001_ l2) (hp2_0 : ∀ k_, P2_ k_ → ¬ P0_ k_) (h : impl_Turn_50.f l0 a1 l2 = some r) :
    Calls Try.prog 50 #[u9000_, .int .i64 a1, u9001_] w fun e w' => ∃ v0_ : Value, e = .returned (v0_) ∧ Kd.R k36 36 w' w0.heap.size (fun k_ => ((P0_ k_ ∨ P2_ k_) ∨ w.heap.size ≤ k_)) v0_ r ∧ Below w0.heap.size w0 w' ∧ Kept w w' (fun k_ => P0_ k_ ∨ P2_ k_) := by
 unfold impl_Turn_50.f at h
 split at h
 rotate_left
 {
 cases h
 }
 rename_i hc
 obtain ⟨h0, h1, h2, h3⟩ := hc
 obtain ⟨x, rfl⟩ : ∃ x, l2 = [x] := by
   cases l2 with
   | nil => simp at h2
   | cons x t => cases t with
     | nil => exact ⟨x, rfl⟩
     | cons y t => simp at h2
 obtain ⟨i, rfl⟩ : ∃ i : Nat, a1 = (i : Int) := ⟨a1.toNat, by omega⟩
 rw [Int.toNat_natCast] at h
 have hr : r = l0.take i ++ x :: l0.drop i := by injection h with h; rw [← h]; simp
 clear h h2 h0
 have hil : i ≤ l0.length := by omega
 have hbase : w0.heap.size ≤ w.heap.size := hB.size
 have hC2 : Kd.R k36 36 w w0.heap.size P2_ u9001_ [x] := ho2
 obtain ⟨hok2, inner2, hown2, hr2⟩ := ho2
 rcases hown2.2 with ⟨hv', hl0⟩ | ⟨vb, vc, vcur, rfl, hvb, hvh, hvc, hvm, hvs, hvt⟩
 {
 simp at hl0
 }
 have hi2l : inner2.length = 3 := by have := hr2.1; simpa [sz] using this
 have hvt' : vcur.toList.take 3 = inner2 := by simpa [sz] using hvt
 have hx0 := hr2.2 0 x rfl
 rw [Nat.zero_mul, List.drop_zero, sz, List.take_of_length_le (by omega)] at hx0
 have hP2 : P2_ vb := hok2 vb (by simp [Value.ownBlock])
 have hv1 := one_of _ _ _ _ _ hx0
 have hX : Kd.C k36 w (some ⟨vb, 0, none⟩) 1 [x] := (Kd.R_reads' hC2).2.2
 have HO := Kd.R_mono (ok' := fun k_ => ((P0_ k_ ∨ P2_ k_) ∨ w.heap.size ≤ k_)) ho0 (fun k hk => .inl (.inl hk))
 by_cases hend : i = l0.length
 {
 obtain ⟨A, n, c, rfl⟩ : ∃ A n c, u9000_ = .slice A n c := by obtain ⟨A, c, he, _⟩ := Kd.R_reads ho0; exact ⟨_, _, _, he⟩
 have hn := (Kd.R_reads' ho0).1
 rw [hend, ← hn]
 refine (at_end w0 w w0.heap.size n c vb vc A _ l0 x HO hB hbase (by omega) hX (fun k hk => .inr hk)).mono ?_
 rintro e w' ⟨v1, rfl, hR, hB', hg⟩
 refine ⟨v1, rfl, ?_, hB', Kept.of_grown hg (Kept.refl _ _) (fun k hk => .inl (.inl (ho0.1 k hk)))⟩
 rw [hr, hend, List.take_length, List.drop_length]
 exact hR
 }
 obtain ⟨hok0, inner, hown, hri⟩ := ho0
 rcases hown.2 with ⟨hv', hl0⟩ | ⟨g, c, cur, rfl, hgb, hgh, hgc, hgm, hgs, hgt⟩
 {
 omega
 }
 have hP0 : P0_ g := hok0 g (by simp [Value.ownBlock])
 have hlt : i < l0.length := by omega
 have hilen : inner.length = l0.length * 3 := by rw [hri.1, sz]
 have hne : vb ≠ g := fun he => hp0_2 g hP0 (he ▸ hP2)
 have h1c := ones _ _ _ _ _ hri
 rw [sz] at hgs hgt
 have e4 : i * 3 ≤ l0.length * 3 := Nat.mul_le_mul_right _ hil
 have hdl : (inner.drop (i * 3)).length = l0.length * 3 - i * 3 := by rw [List.length_drop, hilen]
 by_cases hroom : l0.length + 1 ≤ c
 {
 refine (room w g l0.length c i vb vc cur vcur inner inner2 hlt hroom hgm hgh hgs hgt hvh hvt' hi2l hne h1c hv1).mono ?_
 rintro e w' ⟨rfl, rfl⟩
 obtain ⟨cur1, e1, e2, e3⟩ := setCells_row (inner.drop (i * 3)) ((i + 1) * 3) w.drew cur hgh (by omega)
 obtain ⟨cur2, e5, e6, e7⟩ := setCells_row inner2 (i * 3) _ cur1 e1 (by omega)
 obtain ⟨s1, s2, s3, s4⟩ := setCells_same g (inner.drop (i * 3)) ((i + 1) * 3) w.drew
 obtain ⟨s5, s6, s7, s8⟩ := setCells_same g inner2 (i * 3) (w.drew.setCells g ((i + 1) * 3) (inner.drop (i * 3)))
 have hfar : ∀ k, k ≠ g → ((w.drew.setCells g ((i + 1) * 3) (inner.drop (i * 3))).setCells g (i * 3) inner2).heap[k]? = w.heap[k]? := fun k hk => (setCells_far inner2 _ k hk).trans (setCells_far _ _ k hk)
 have hgr : w.grownBy ((w.drew.setCells g ((i + 1) * 3) (inner.drop (i * 3))).setCells g (i * 3) inner2) (some g) := ⟨s5.trans s1, s6.trans s2, s7.trans s3, by rw [s8, s4]; exact Nat.le_refl _, fun k _ hk => hfar k (fun he => hk (by rw [he]))⟩
 refine ⟨_, rfl, ?_, hB.grown hgr hbase (fun k hk => by injection hk with hk; omega), Kept.of_grown hgr (Kept.refl _ _) (fun k hk => by injection hk with hk; subst hk; exact .inl (.inl hP0))⟩
 rw [hr]
 have hcl : cur.toList.length = c * 3 := by rw [Array.length_toList, hgs]
 refine R_of_cells (i := i) (inner := inner) (cur := cur2) (cx := inner2) rfl hroom hgm hgb (.inl (.inl hP0)) (by rw [hilen, sz]) e5 (by rw [e6, e2, hgs, sz]) ?_ (hri.imp_ (fun _ _ hp => flat _ _ _ _ _ _ _ _ hp)) hil (flat _ _ _ _ _ _ _ _ hx0) (by rw [hi2l, sz])
 rw [sz]
 have a1 : cur1.toList.take (i * 3) = inner.take (i * 3) := by
   rw [e3, List.append_assoc, List.take_append_of_le_length (by rw [List.length_take, Nat.min_eq_left (by omega)]; omega), List.take_take, Nat.min_eq_left (by omega), ← hgt, List.take_take, Nat.min_eq_left e4]
 have a2 : cur1.toList.drop (i * 3 + inner2.length) = inner.drop (i * 3) ++ cur.toList.drop ((i + 1) * 3 + (inner.drop (i * 3)).length) := by
   rw [e3, List.append_assoc, hi2l, show i * 3 + 3 = (i + 1) * 3 by omega]
   exact List.drop_left' (by rw [List.length_take, Nat.min_eq_left (by omega)])
 rw [e7, a1, a2, ← List.append_assoc]
 exact List.take_left' (by simp only [List.length_append, List.length_take, hdl, hi2l, hilen]; rw [Nat.min_eq_left e4]; omega)
 }
 {
 refine (grow w g l0.length c i vb vc cur vcur inner inner2 hlt hgc (by omega) (by omega) hgh hgs hgt hvh hvt' hi2l h1c hv1).mono ?_
 rintro e w' ⟨rfl, rfl⟩
 have hGn : l0.length + 1 ≤ grownCap w (l0.length + 1) c 36 := grownCap_ge w _ _ _
 have hG63 : grownCap w (l0.length + 1) c 36 ≤ maxLen := grownCap_le_maxLen w (l0.length + 1) c 36 (by unfold maxLen; omega)
 obtain ⟨G, hG⟩ : ∃ G, G = grownCap w (l0.length + 1) c 36 := ⟨_, rfl⟩
 rw [← hG] at hGn hG63 ⊢
 obtain ⟨ROW, hROW⟩ : ∃ ROW : Array Value, ROW = (inner.take (i * 3)).toArray ++ Builtin.zeroCells (.agg #[(.string ⟨#[]⟩), (.int .i64 0), (.int .i64 0)] : Value).cells (l0.length + 1 - i) ++ Builtin.zeroCells (.agg #[(.string ⟨#[]⟩), (.int .i64 0), (.int .i64 0)] : Value).cells (G - (l0.length + 1)) := ⟨_, rfl⟩
 rw [← hROW]
 have hRs : ROW.size = G * 3 := by
   rw [hROW]
   simp [Builtin.zeroCells, Value.cells, hilen]
   omega
 have hRt : ROW.toList.take (i * 3) = inner.take (i * 3) := by
   rw [hROW]
   simp only [Array.toList_append, List.append_assoc]
   rw [List.take_left' (by rw [List.length_take, hilen, Nat.min_eq_left e4])]
 have hW : ((w.alloc (.cells ROW 36)).drew).heap[w.heap.size]? = some (.cells ROW 36 (0, 0)) := blk_new w _
 obtain ⟨cur1, e1, e2, e3⟩ := setCells_row inner2 (i * 3) _ ROW hW (by omega)
 have hW2 : ((w.alloc (.cells ROW 36)).drew.setCells w.heap.size (i * 3) inner2).drew.heap[w.heap.size]? = some (.cells cur1 36 (0, 0)) := e1
 obtain ⟨cur2, e5, e6, e7⟩ := setCells_row (inner.drop (i * 3)) ((i + 1) * 3) _ cur1 hW2 (by omega)
 obtain ⟨s1, s2, s3, s4⟩ := setCells_same w.heap.size inner2 (i * 3) (w.alloc (.cells ROW 36)).drew
 obtain ⟨s5, s6, s7, s8⟩ := setCells_same w.heap.size (inner.drop (i * 3)) ((i + 1) * 3) ((w.alloc (.cells ROW 36)).drew.setCells w.heap.size (i * 3) inner2).drew
 have hfar : ∀ k, k < w.heap.size → (((w.alloc (.cells ROW 36)).drew.setCells w.heap.size (i * 3) inner2).drew.setCells w.heap.size ((i + 1) * 3) (inner.drop (i * 3))).heap[k]? = w.heap[k]? := fun k hk =>
   (setCells_far _ _ k (by omega)).trans ((setCells_far inner2 _ k (by omega)).trans (Below.heap_alloc w _ k hk))
 have hgr : w.grownBy (((w.alloc (.cells ROW 36)).drew.setCells w.heap.size (i * 3) inner2).drew.setCells w.heap.size ((i + 1) * 3) (inner.drop (i * 3))) none :=
   ⟨s5.trans s1, s6.trans s2, s7.trans s3, by rw [s8]; show w.heap.size ≤ ((w.alloc (.cells ROW 36)).drew.setCells w.heap.size (i * 3) inner2).heap.size; rw [s4]; show w.heap.size ≤ (w.alloc _).heap.size; simp, fun k hk _ => hfar k hk⟩
 refine ⟨_, rfl, ?_, hB.grown hgr hbase (fun k hk => by cases hk), Kept.of_grown hgr (Kept.refl _ _) (fun k hk => by cases hk)⟩
 rw [hr]
 refine R_of_cells (i := i) (inner := inner) (cur := cur2) (cx := inner2) rfl hGn hG63 hbase (.inr (Nat.le_refl _)) (by rw [hilen, sz]) e5 (by rw [e6, e2, hRs, sz]) ?_ (hri.imp_ (fun _ _ hp => flat _ _ _ _ _ _ _ _ hp)) hil (flat _ _ _ _ _ _ _ _ hx0) (by rw [hi2l, sz])
 rw [sz]
 have hRl : ROW.toList.length = G * 3 := by rw [Array.length_toList, hRs]
 have a1 : cur1.toList.take ((i + 1) * 3) = inner.take (i * 3) ++ inner2 := by
   rw [e3, hRt]
   exact List.take_left' (by simp only [List.length_append, List.length_take, hi2l, hilen]; rw [Nat.min_eq_left e4]; omega)
 rw [e7, a1]
 exact List.take_left' (by simp only [List.length_append, List.length_take, hdl, hi2l, hilen]; rw [Nat.min_eq_left e4]; omega)
 }
end Go.Proofs.Ytcgkmdmbjffipaa.P
