/- The texts Px47, one behind the other: what functions of the program, its reference and its laws come to, the words that this takes, and what follows. No condition beyond what each theorem names. -/
import Derived.Test.YtcgkmdmbjffipaaZEnsemble1
import Derived.Test.YtcgkmdmbjffipaaZEnsemble2
import Derived.Test.YtcgkmdmbjffipaaZEnsemble3
namespace Go.Proofs.Ytcgkmdmbjffipaa.P
open Go.RowKit Go.Proofs.YtcgkmdmbjffipaaW.PrintWords Go.Proofs.YtcgkmdmbjffipaaW.PrintLast Go.Proofs.YtcgkmdmbjffipaaW.PrintMore
attribute [local go_sem] max2_int min2_int max_two min_two max_three min_three max_four min_four   -- for this text's walks alone
set_option linter.unusedVariables false
set_option linter.unusedSimpArgs false
mutual
def impl_AddAnswers.j0 : Nat → List (S36) → List (S38) → Int → Bool → Option ((List (S36)) × Int)
  | 0, _, _, _, _ => none
  | k + 1, x0, x1, x2, x16 => if x16 = true then (none) else ((impl_within.f x2 1 10000).bind fun t304 => (if t304 = true then ((impl_Turn_44.f x0).bind fun t305 => ((impl_missed.f k x0 x1).bind fun t308 => (impl_AddAnswers.l0 k x0 x1 x2 t305 t308 (t308.length : Int) 0))) else (none)))
def impl_AddAnswers.l0 : Nat → List (S36) → List (S38) → Int → List (S36) → List (List Int) → Int → Int → Option ((List (S36)) × Int)
  | 0, _, _, _, _, _, _, _ => none
  | k + 1, x0, x1, x2, x8, x33, x34, x35 => if x35 < x34 then (if 0 ≤ x35 then (if x35 < (x33.length : Int) then (if 0 < ((rd_L5 x33 x35).length : Int) then (if 0 ≤ (rd (rd_L5 x33 x35) 0) then (if (rd (rd_L5 x33 x35) 0) < (x1.length : Int) then (if 1 < ((rd_L5 x33 x35).length : Int) then (if 0 ≤ (rd (rd_L5 x33 x35) 1) then (if (rd (rd_L5 x33 x35) 1) < (x0.length : Int) then ((impl_Turn_end.f ((rd_T36 x0 (rd (rd_L5 x33 x35) 1)).f0) ((rd_T36 x0 (rd (rd_L5 x33 x35) 1)).f1) ((rd_T36 x0 (rd (rd_L5 x33 x35) 1)).f2)).bind fun t318 => ((impl_begins.f k x8 ((rd_T38 x1 (rd (rd_L5 x33 x35) 0)).f1) (wrap64 (t318 + ((rd_T38 x1 (rd (rd_L5 x33 x35) 0)).f2)))).bind fun t320 => (if t320 = true then (impl_AddAnswers.l0 k x0 x1 x2 x8 x33 x34 (wrap64 (x35 + 1))) else ((impl_Turn_valid.f k ((rd_T38 x1 (rd (rd_L5 x33 x35) 0)).f1) (wrap64 (t318 + ((rd_T38 x1 (rd (rd_L5 x33 x35) 0)).f2))) x2).bind fun t321 => (if t321 = true then ((impl_Turn_48_at_impl_compareTurns.f k x8 ((rd_T38 x1 (rd (rd_L5 x33 x35) 0)).f1) (wrap64 (t318 + ((rd_T38 x1 (rd (rd_L5 x33 x35) 0)).f2))) x2).bind fun bt322 => ((impl_Turn_50.f x8 bt322.1 (([(⟨(rd_T38 x1 (rd (rd_L5 x33 x35) 0)).f1, wrap64 (t318 + ((rd_T38 x1 (rd (rd_L5 x33 x35) 0)).f2)), x2⟩ : S36)] : List (S36)))).bind fun t327 => (impl_AddAnswers.l0 k x0 x1 x2 t327 x33 x34 (wrap64 (x35 + 1))))) else (none)))))) else (none)) else (none)) else (none)) else (none)) else (none)) else (none)) else (none)) else (none)) else (if (x8.length : Int) > 24 then (none) else (some (x8, 0)))
end
def impl_AddAnswers.f (k : Nat) (l0 : List (S36)) (l1 : List (S38)) (a2 : Int) : Option ((List (S36)) × Int) := (impl_ValidTurns.f k l0).bind fun t302 => (if t302 = true then ((impl_answersOk.f k l1).bind fun t303 => (impl_AddAnswers.j0 k l0 l1 a2 (!t303))) else (impl_AddAnswers.j0 k l0 l1 a2 true))
theorem impl_AddAnswers.mono_l : ∀ k, (∀ y0 y1 y2 y3, LeO (impl_AddAnswers.j0 k y0 y1 y2 y3) (impl_AddAnswers.j0 (k + 1) y0 y1 y2 y3)) ∧ (∀ y0 y1 y2 y3 y4 y5 y6, LeO (impl_AddAnswers.l0 k y0 y1 y2 y3 y4 y5 y6) (impl_AddAnswers.l0 (k + 1) y0 y1 y2 y3 y4 y5 y6))
  | 0 => ⟨fun _ _ _ _ r h => by simp [impl_AddAnswers.j0] at h, fun _ _ _ _ _ _ _ r h => by simp [impl_AddAnswers.l0] at h⟩
  | k + 1 => by
    obtain ⟨ih0, ih1⟩ := impl_AddAnswers.mono_l k
    refine ⟨?_, ?_⟩
    · intro y0 y1 y2 y3
      unfold impl_AddAnswers.j0
      repeat' first
      | (with_reducible exact ih0 _ _ _ _)
      | (with_reducible exact ih1 _ _ _ _ _ _ _)
      | (with_reducible exact impl_Turn_48_at_impl_compareTurns.mono _ _ _ _ _)
      | (with_reducible exact impl_Turn_valid.mono _ _ _ _)
      | (with_reducible exact impl_ValidTurns.mono _ _)
      | (with_reducible exact impl_answersOk.mono _ _)
      | (with_reducible exact impl_begins.mono _ _ _ _)
      | (with_reducible exact impl_missed.mono _ _ _)
      | (with_reducible exact LeO.refl _)
      | (with_reducible exact LeO.none _)
      | (with_reducible refine LeO.ite ?_ ?_)
      | (with_reducible refine LeO.bind ?_ (fun _ => ?_))
      | exact ih0 _ _ _ _
      | exact ih1 _ _ _ _ _ _ _
      | exact impl_Turn_48_at_impl_compareTurns.mono _ _ _ _ _
      | exact impl_Turn_valid.mono _ _ _ _
      | exact impl_ValidTurns.mono _ _
      | exact impl_answersOk.mono _ _
      | exact impl_begins.mono _ _ _ _
      | exact impl_missed.mono _ _ _
      | exact LeO.none _
      | refine LeO.ite ?_ ?_
      | refine LeO.bind ?_ (fun _ => ?_)
    · intro y0 y1 y2 y3 y4 y5 y6
      unfold impl_AddAnswers.l0
      repeat' first
      | (with_reducible exact ih0 _ _ _ _)
      | (with_reducible exact ih1 _ _ _ _ _ _ _)
      | (with_reducible exact impl_Turn_48_at_impl_compareTurns.mono _ _ _ _ _)
      | (with_reducible exact impl_Turn_valid.mono _ _ _ _)
      | (with_reducible exact impl_ValidTurns.mono _ _)
      | (with_reducible exact impl_answersOk.mono _ _)
      | (with_reducible exact impl_begins.mono _ _ _ _)
      | (with_reducible exact impl_missed.mono _ _ _)
      | (with_reducible exact LeO.refl _)
      | (with_reducible exact LeO.none _)
      | (with_reducible refine LeO.ite ?_ ?_)
      | (with_reducible refine LeO.bind ?_ (fun _ => ?_))
      | exact ih0 _ _ _ _
      | exact ih1 _ _ _ _ _ _ _
      | exact impl_Turn_48_at_impl_compareTurns.mono _ _ _ _ _
      | exact impl_Turn_valid.mono _ _ _ _
      | exact impl_ValidTurns.mono _ _
      | exact impl_answersOk.mono _ _
      | exact impl_begins.mono _ _ _ _
      | exact impl_missed.mono _ _ _
      | exact LeO.none _
      | refine LeO.ite ?_ ?_
      | refine LeO.bind ?_ (fun _ => ?_)
theorem impl_AddAnswers.mono : ∀ a0 a1 a2 k, LeO (impl_AddAnswers.f k a0 a1 a2) (impl_AddAnswers.f (k + 1) a0 a1 a2) := by
  intro a0 a1 a2 k
  obtain ⟨ih0, ih1⟩ := impl_AddAnswers.mono_l k
  unfold impl_AddAnswers.f
  repeat' first
      | (with_reducible exact ih0 _ _ _ _)
      | (with_reducible exact ih1 _ _ _ _ _ _ _)
      | (with_reducible exact impl_Turn_48_at_impl_compareTurns.mono _ _ _ _ _)
      | (with_reducible exact impl_Turn_valid.mono _ _ _ _)
      | (with_reducible exact impl_ValidTurns.mono _ _)
      | (with_reducible exact impl_answersOk.mono _ _)
      | (with_reducible exact impl_begins.mono _ _ _ _)
      | (with_reducible exact impl_missed.mono _ _ _)
      | (with_reducible exact LeO.refl _)
      | (with_reducible exact LeO.none _)
      | (with_reducible refine LeO.ite ?_ ?_)
      | (with_reducible refine LeO.bind ?_ (fun _ => ?_))
      | exact ih0 _ _ _ _
      | exact ih1 _ _ _ _ _ _ _
      | exact impl_Turn_48_at_impl_compareTurns.mono _ _ _ _ _
      | exact impl_Turn_valid.mono _ _ _ _
      | exact impl_ValidTurns.mono _ _
      | exact impl_answersOk.mono _ _
      | exact impl_begins.mono _ _ _ _
      | exact impl_missed.mono _ _ _
      | exact LeO.none _
      | refine LeO.ite ?_ ?_
      | refine LeO.bind ?_ (fun _ => ?_)
def impl_AddAnswers.T9 : Bool × List (List Nat × List Nat) := (true, [([], []), ([], []), ([1], [1]), ([2], [2]), ([0, 3], [0, 3]), ([4], [4]), ([], []), ([], []), ([7], [7]), ([8], [8]), ([6, 9], [6, 9]), ([10], [10]), ([], []), ([], []), ([12, 5, 0, 1, 2, 3, 4, 5, 12, 13], [5, 12]), ([13, 11, 14, 0, 1, 2, 3, 4, 5, 6, 7, 8, 9, 10, 11, 12, 13, 14], [11, 13])])
def impl_AddAnswers.B9 : List Nat := [0, 0, 2, 6, 15, 31, 0, 0, 128, 384, 960, 1984, 0, 0, 12351, 32767]
theorem impl_AddAnswers.tab9 : rtab .any (opsOf Try.f10 9) = impl_AddAnswers.T9 := by kernel_rfl
theorem impl_AddAnswers.bits9 : waitsOk impl_AddAnswers.T9.2 impl_AddAnswers.B9 = true := by kernel_rfl
def impl_AddAnswers.T10 : Bool × List (List Nat × List Nat) := (true, [([], []), ([0], [0]), ([], []), ([2], [2]), ([], []), ([4], [4]), ([3, 5], [3, 5]), ([], []), ([1, 6, 7], [1, 6, 7]), ([], []), ([9, 8, 3, 0, 1, 2, 3, 4, 5, 6, 7, 8, 9], [8, 9])])
def impl_AddAnswers.B10 : List Nat := [0, 1, 0, 4, 0, 16, 60, 0, 255, 0, 1023]
theorem impl_AddAnswers.tab10 : rtab .any (opsOf Try.f10 10) = impl_AddAnswers.T10 := by kernel_rfl
theorem impl_AddAnswers.bits10 : waitsOk impl_AddAnswers.T10.2 impl_AddAnswers.B10 = true := by kernel_rfl
set_option maxHeartbeats 8000000 in
set_option maxRecDepth 100000 in
theorem impl_AddAnswers.calls (k : Nat) (A0 : Option Addr) (c0 : Nat) (l0 : List (S36)) (A1 : Option Addr) (c1 : Nat) (l1 : List (S38)) (a2 : Int) (r1 : List (S36)) (r2 : Int) (w : World) (hr0 : Kd.C k36 w A0 l0.length l0) (hc0 : l0.length ≤ c0) (hr1 : Kd.C k38 w A1 l1.length l1) (hc1 : l1.length ≤ c1) (h : impl_AddAnswers.f k l0 l1 a2 = some (r1, r2)) :
    Calls Try.prog 10 #[.slice A0 l0.length c0, .slice A1 l1.length c1, .int .i64 a2] w fun e w' => ∃ v0_ : Value, e = .returned (.tuple #[v0_, .int .i64 r2]) ∧ Kd.R k36 36 w' w.heap.size (fun _ => True) v0_ r1 ∧ Below w.heap.size w w' := by
 have hu38 := Try.underlying38
 have hu36 := Try.underlying36
 have HR0 := Aside0.mk hr0
 have HC0 := Aside0.mk hc0
 clear hr0 hc0
 have HR1 := Aside0.mk hr1
 have HC1 := Aside0.mk hc1
 clear hr1 hc1
 have HB := Aside0.mk (Below.refl w.heap.size w)
 have H : ((impl_ValidTurns.f k l0).bind fun t302 => (if t302 = true then ((impl_answersOk.f k l1).bind fun t303 => (impl_AddAnswers.j0 k l0 l1 a2 (!t303))) else (impl_AddAnswers.j0 k l0 l1 a2 true))) = some (r1, r2) := h
 clear h
 have HC4 := Aside0.mk H
 clear H
 go_enter Try.func10, Try.ntmps10
 go_upto_region 1 with (fail)
 go_cut [16] (fun v16 wc => ∃ (kq : Nat) (x16_3 : Bool), v16 = .bool x16_3 ∧ Aside0 (impl_AddAnswers.j0 kq l0 l1 a2 x16_3 = some (r1, r2)) ∧ Aside0 (kq ≤ k) ∧ Aside0 (Below w.heap.size w wc))
 case first =>
  skip
  {
 have H := HC4.out
 clear HC4
 replace H := Option.bind_eq_some_iff.mp H
 obtain ⟨t302, A50, H⟩ := H
 replace H : (if t302 = true then ((impl_answersOk.f k l1).bind fun t303 => (impl_AddAnswers.j0 k l0 l1 a2 (!t303))) else (impl_AddAnswers.j0 k l0 l1 a2 true)) = some (r1, r2) := H
 have A5 := Aside0.mk A50
 clear A50
 by_cases c6 : t302 = true
 {
 subst c6
 have H1 : ((impl_answersOk.f k l1).bind fun t303 => (impl_AddAnswers.j0 k l0 l1 a2 (!t303))) = some (r1, r2) := by rw [if_pos rfl] at H; exact H
 clear H
 have H := H1
 clear H1
 replace H := Option.bind_eq_some_iff.mp H
 obtain ⟨t303, A70, H⟩ := H
 replace H : (impl_AddAnswers.j0 k l0 l1 a2 (!t303)) = some (r1, r2) := H
 have A7 := Aside0.mk A70
 clear A70
 have H' := Aside0.mk H
 clear H
 go_wp2_with (first | ((with_reducible refine gate_callee (f := 40) rfl ?_); refine goesL_ (some 18) rfl rfl Try.func40 (by kernel_rfl) rfl #[.slice A0 l0.length c0] rfl (by (try simp only [List.map_toArray, List.map_cons, List.map_nil]); first | done | rfl | (simp only [List.length_drop, List.length_take]; rfl)) ?_; (with_reducible refine (impl_ValidTurns.calls k _ _ l0 true _ ?side1 ?side2 A5.out).mono ?_); (case side1 => repeat (first | exact (Kd.C_below HR0.out HB.out) | (with_reducible refine Kd.C_alloc ?_ _) | (with_reducible refine Kd.C_drewN ?_ _) | (with_reducible refine Kd.C_drew ?_))); (case side2 => exact HC0.out); rintro e w8 ⟨rfl, hb⟩; refine ⟨_, rfl, ?_⟩; have n0_ := Aside0.mk (below_step (by repeat (first | (with_reducible first | exact HB.out | apply below_alloc | apply pw_below_drewN | apply below_drew1) | exact HB.out)) hb); clear HB; have HB := n0_; clear n0_; (try clear hb); (try clear hb2); (try clear hk); (try clear hi)) | (go_at_call 41; (with_reducible refine (impl_answersOk.calls k _ _ l1 t303 _ ?side1 ?side2 A7.out).mono ?_); (case side1 => repeat (first | exact (Kd.C_below HR1.out HB.out) | (with_reducible refine Kd.C_alloc ?_ _) | (with_reducible refine Kd.C_drewN ?_ _) | (with_reducible refine Kd.C_drew ?_))); (case side2 => exact HC1.out); rintro e w9 ⟨rfl, hb⟩; have n0_ := Aside0.mk (below_step (by repeat (first | (with_reducible first | exact HB.out | apply below_alloc | apply pw_below_drewN | apply below_drew1) | exact HB.out)) hb); clear HB; have HB := n0_; clear n0_; (try clear hb); (try clear hb2); (try clear hk); (try clear hi)))
 go_meet
 case rel => exact ⟨_, (!t303), (by first | rfl | (simp; done) | (simp [*]; done)), H', ⟨by first | omega | exact Nat.le_refl _⟩, ⟨by repeat (first | (with_reducible first | exact HB.out | apply below_alloc | apply pw_below_drewN | apply below_drew1) | exact HB.out)⟩⟩
 }
 {
 replace c6 := Bool.eq_false_iff.mpr c6
 subst c6
 have H1 : (impl_AddAnswers.j0 k l0 l1 a2 true) = some (r1, r2) := by rw [if_neg (show ¬ (false = true) by decide)] at H; exact H
 clear H
 have H := H1
 clear H1
 have H' := Aside0.mk H
 clear H
 go_wp2_with (first | ((with_reducible refine gate_callee (f := 40) rfl ?_); refine goesL_ (some 18) rfl rfl Try.func40 (by kernel_rfl) rfl #[.slice A0 l0.length c0] rfl (by (try simp only [List.map_toArray, List.map_cons, List.map_nil]); first | done | rfl | (simp only [List.length_drop, List.length_take]; rfl)) ?_; (with_reducible refine (impl_ValidTurns.calls k _ _ l0 false _ ?side1 ?side2 A5.out).mono ?_); (case side1 => repeat (first | exact (Kd.C_below HR0.out HB.out) | (with_reducible refine Kd.C_alloc ?_ _) | (with_reducible refine Kd.C_drewN ?_ _) | (with_reducible refine Kd.C_drew ?_))); (case side2 => exact HC0.out); rintro e w10 ⟨rfl, hb⟩; refine ⟨_, rfl, ?_⟩; have n0_ := Aside0.mk (below_step (by repeat (first | (with_reducible first | exact HB.out | apply below_alloc | apply pw_below_drewN | apply below_drew1) | exact HB.out)) hb); clear HB; have HB := n0_; clear n0_; (try clear hb); (try clear hb2); (try clear hk); (try clear hi)))
 go_meet
 case rel => exact ⟨_, (true), (by first | rfl | (simp; done) | (simp [*]; done)), H', ⟨by first | omega | exact Nat.le_refl _⟩, ⟨by repeat (first | (with_reducible first | exact HB.out | apply below_alloc | apply pw_below_drewN | apply below_drew1) | exact HB.out)⟩⟩
 }
  }
 case rest =>
  skip
  {
 clear HC4
 try clear c1
 try clear p2
 try clear c4
 try clear c6
 try clear c10
 obtain ⟨kq, x16_3, rfl, HA, HJ3, HB⟩ := hcut
 cases kq with
 | zero => exact absurd HA.out (by simp [impl_AddAnswers.j0])
 | succ kj3 =>
  skip
  {
 have H := HA.out
 clear HA
 simp only [impl_AddAnswers.j0] at H
 by_cases c11 : x16_3 = true
 {
 subst c11
 have H1 : (none) = some (r1, r2) := by rw [if_pos rfl] at H; exact H
 clear H
 have H := H1
 clear H1
 exact absurd H (by simp)
 }
 {
 replace c11 := Bool.eq_false_iff.mpr c11
 subst c11
 have H1 : ((impl_within.f a2 1 10000).bind fun t304 => (if t304 = true then ((impl_Turn_44.f l0).bind fun t305 => ((impl_missed.f kj3 l0 l1).bind fun t308 => (impl_AddAnswers.l0 kj3 l0 l1 a2 t305 t308 (t308.length : Int) 0))) else (none))) = some (r1, r2) := by rw [if_neg (show ¬ (false = true) by decide)] at H; exact H
 clear H
 have H := H1
 clear H1
 replace H := Option.bind_eq_some_iff.mp H
 obtain ⟨t304, A120, H⟩ := H
 replace H : (if t304 = true then ((impl_Turn_44.f l0).bind fun t305 => ((impl_missed.f kj3 l0 l1).bind fun t308 => (impl_AddAnswers.l0 kj3 l0 l1 a2 t305 t308 (t308.length : Int) 0))) else (none)) = some (r1, r2) := H
 have A12 := Aside0.mk A120
 clear A120
 by_cases c13 : t304 = true
 {
 subst c13
 have H1 : ((impl_Turn_44.f l0).bind fun t305 => ((impl_missed.f kj3 l0 l1).bind fun t308 => (impl_AddAnswers.l0 kj3 l0 l1 a2 t305 t308 (t308.length : Int) 0))) = some (r1, r2) := by rw [if_pos rfl] at H; exact H
 clear H
 have H := H1
 clear H1
 replace H := Option.bind_eq_some_iff.mp H
 obtain ⟨t305, A140, H⟩ := H
 replace H : ((impl_missed.f kj3 l0 l1).bind fun t308 => (impl_AddAnswers.l0 kj3 l0 l1 a2 t305 t308 (t308.length : Int) 0)) = some (r1, r2) := H
 have A14 := Aside0.mk A140
 clear A140
 replace H := Option.bind_eq_some_iff.mp H
 obtain ⟨t308, A150, H⟩ := H
 replace H : (impl_AddAnswers.l0 kj3 l0 l1 a2 t305 t308 (t308.length : Int) 0) = some (r1, r2) := H
 have A15 := Aside0.mk A150
 clear A150
 have H' := Aside0.mk H
 clear H
 go_wp2_with (first | ((with_reducible refine gate_callee (f := 43) rfl ?_); refine goesL_ (some 27) rfl rfl Try.func43 (by kernel_rfl) rfl #[.int .i64 a2, .int .i64 1, .int .i64 10000] rfl (by (try simp only [List.map_toArray, List.map_cons, List.map_nil]); first | done | rfl | (simp only [List.length_drop, List.length_take]; rfl)) ?_; (with_reducible refine (impl_within.calls a2 1 10000 true _ A12.out).mono ?_); rintro e w' ⟨rfl, ⟨nd, rfl⟩⟩; refine ⟨_, rfl, ?_⟩) | ((with_reducible refine gate_callee (f := 44) rfl ?_); refine goesL_ (some 30) rfl rfl Try.func44 (by kernel_rfl) rfl #[.slice A0 l0.length c0] rfl (by (try simp only [List.map_toArray, List.map_cons, List.map_nil]); first | done | rfl | (simp only [List.length_drop, List.length_take]; rfl)) ?_; (with_reducible refine (impl_Turn_44.calls _ _ l0 t305 _ ?side1 ?side2 A14.out).mono ?_); (case side1 => repeat (first | exact (Kd.C_below HR0.out (by repeat (first | (with_reducible first | exact HB.out | apply below_alloc | apply pw_below_drewN | apply below_drew1) | exact HB.out))) | (with_reducible refine Kd.C_alloc ?_ _) | (with_reducible refine Kd.C_drewN ?_ _) | (with_reducible refine Kd.C_drew ?_))); (case side2 => exact HC0.out); rintro e w16 ⟨v306, rfl, ho0, hb⟩; refine ⟨_, rfl, ?_⟩; have n0_ := Aside0.mk (Kd.R_lower ho0 (below_size (by repeat (first | (with_reducible first | exact HB.out | apply below_alloc | apply pw_below_drewN | apply below_drew1) | exact HB.out)))); have n1_ := Aside0.mk (below_step (by repeat (first | (with_reducible first | exact HB.out | apply below_alloc | apply pw_below_drewN | apply below_drew1) | exact HB.out)) hb); clear HB; have HO307 := n0_; have HB := n1_; clear n0_ n1_; (try clear hb); (try clear hb2); (try clear hk); (try clear hi); (try clear ho0)) | ((with_reducible refine gate_callee (f := 42) rfl ?_); refine goesL_ (some 33) rfl rfl Try.func42 (by kernel_rfl) rfl #[.slice A0 l0.length c0, .slice A1 l1.length c1] rfl (by (try simp only [List.map_toArray, List.map_cons, List.map_nil]); first | done | rfl | (simp only [List.length_drop, List.length_take]; rfl)) ?_; (with_reducible refine (impl_missed.calls kj3 _ _ l0 _ _ l1 t308 _ ?side1 ?side2 ?side3 ?side4 A15.out).mono ?_); (case side1 => repeat (first | exact (Kd.C_below HR0.out HB.out) | (with_reducible refine Kd.C_alloc ?_ _) | (with_reducible refine Kd.C_drewN ?_ _) | (with_reducible refine Kd.C_drew ?_))); (case side2 => exact HC0.out); (case side3 => repeat (first | exact (Kd.C_below HR1.out HB.out) | (with_reducible refine Kd.C_alloc ?_ _) | (with_reducible refine Kd.C_drewN ?_ _) | (with_reducible refine Kd.C_drew ?_))); (case side4 => exact HC1.out); rintro e w17 ⟨v309, rfl, ho0, hb⟩; refine ⟨_, rfl, ?_⟩; have n0_ := Aside0.mk (Kd.R_below (by (with_reducible repeat (first | apply Kd.R_alloc | apply Kd.R_drewN | apply Kd.R_drew)); exact HO307.out) hb); have n1_ := Aside0.mk (Kd.S_lower ho0 (below_size (by repeat (first | (with_reducible first | exact HB.out | apply below_alloc | apply pw_below_drewN | apply below_drew1) | exact HB.out)))); have n2_ := Aside0.mk (below_step (by repeat (first | (with_reducible first | exact HB.out | apply below_alloc | apply pw_below_drewN | apply below_drew1) | exact HB.out)) hb); clear HO307; clear HB; have HO307 := n0_; have HO310 := n1_; have HB := n2_; clear n0_ n1_ n2_; (try clear hb); (try clear hb2); (try clear hk); (try clear hi); (try clear ho0); obtain ⟨Ao18, co18, eo18⟩ := Kd.S_slice HO310.out; subst eo18))
 (try simp only [Act.put, List.setIfInBounds_toArray, List.set_cons_zero, List.set_cons_succ])
 go_loopg [8, 35] kj3 (fun kq v8 v35 w' => ∃ (x8_2 : List (S36)) (x35_2 : Int), v35 = .int .i64 x35_2 ∧ Aside0 (impl_AddAnswers.l0 kq l0 l1 a2 x8_2 t308 (t308.length : Int) x35_2 = some (r1, r2)) ∧ Aside0 (kq ≤ kj3) ∧ Aside0 (Kd.R k36 36 w' w.heap.size (fun _ => True) v8 x8_2) ∧ Aside0 (Kd.S (Kd.slice 2 (Kd.int .i64)) 34 w' w.heap.size (fun _ => True) (.slice Ao18 t308.length co18) t308) ∧ Aside0 (Below w.heap.size w w'))
 case atStart => exact ⟨(t305), (0), (by first | rfl | (simp; done) | (simp [*]; done)), H', ⟨Nat.le_refl _⟩, ⟨by (with_reducible repeat (first | apply Kd.R_alloc | apply Kd.R_drewN | apply Kd.R_drew)); exact HO307.out⟩, ⟨by (with_reducible repeat (first | apply Kd.S_alloc | apply Kd.S_drewN | apply Kd.S_drew)); exact HO310.out⟩, ⟨by repeat (first | (with_reducible first | exact HB.out | apply below_alloc | apply pw_below_drewN | apply below_drew1) | exact HB.out)⟩⟩
 case round =>
  skip
  {
 clear H'
 try clear c1
 try clear p2
 try clear c4
 try clear c6
 try clear c10
 try clear c11
 try clear c13
 try clear p2
 obtain ⟨x8_2, x35_2, rfl, HA, HK2, HO_8, HO_33, HB⟩ := hrel
 cases gk with
 | zero => exact absurd HA.out (by simp [impl_AddAnswers.l0])
 | succ k2 =>
  skip
  {
 have H := HA.out
 clear HA
 simp only [impl_AddAnswers.l0] at H
 by_cases c19 : x35_2 < (t308.length : Int)
 {
 rw [if_pos c19] at H
 have c19b0 : decide (x35_2 < (t308.length : Int)) = true := decide_eq_true c19
 clear c19
 by_cases c20 : 0 ≤ x35_2
 {
 rw [if_pos c20] at H
 have c20b0 : decide (0 ≤ x35_2) = true := decide_eq_true c20
 clear c20
 by_cases c21 : x35_2 < (t308.length : Int)
 {
 rw [if_pos c21] at H
 have c21b0 : decide (x35_2 < (t308.length : Int)) = true := decide_eq_true c21
 clear c21
 by_cases c22 : 0 < ((rd_L5 t308 x35_2).length : Int)
 {
 rw [if_pos c22] at H
 have c22b0 : decide (0 < ((rd_L5 t308 x35_2).length : Int)) = true := decide_eq_true c22
 have c22b1 : decide (0 < (rd_L5 t308 x35_2).length) = true := decide_eq_true (by omega)
 clear c22
 by_cases c23 : 0 ≤ (rd (rd_L5 t308 x35_2) 0)
 {
 rw [if_pos c23] at H
 have c23b0 : decide (0 ≤ (rd (rd_L5 t308 x35_2) 0)) = true := decide_eq_true c23
 clear c23
 by_cases c24 : (rd (rd_L5 t308 x35_2) 0) < (l1.length : Int)
 {
 rw [if_pos c24] at H
 have c24b0 : decide ((rd (rd_L5 t308 x35_2) 0) < (l1.length : Int)) = true := decide_eq_true c24
 clear c24
 by_cases c25 : 1 < ((rd_L5 t308 x35_2).length : Int)
 {
 rw [if_pos c25] at H
 have c25b0 : decide (1 < ((rd_L5 t308 x35_2).length : Int)) = true := decide_eq_true c25
 have c25b1 : decide (1 < (rd_L5 t308 x35_2).length) = true := decide_eq_true (by omega)
 clear c25
 by_cases c26 : 0 ≤ (rd (rd_L5 t308 x35_2) 1)
 {
 rw [if_pos c26] at H
 have c26b0 : decide (0 ≤ (rd (rd_L5 t308 x35_2) 1)) = true := decide_eq_true c26
 clear c26
 by_cases c27 : (rd (rd_L5 t308 x35_2) 1) < (l0.length : Int)
 {
 rw [if_pos c27] at H
 have c27b0 : decide ((rd (rd_L5 t308 x35_2) 1) < (l0.length : Int)) = true := decide_eq_true c27
 clear c27
 replace H := Option.bind_eq_some_iff.mp H
 obtain ⟨t318, A280, H⟩ := H
 replace H : ((impl_begins.f k2 x8_2 ((rd_T38 l1 (rd (rd_L5 t308 x35_2) 0)).f1) (wrap64 (t318 + ((rd_T38 l1 (rd (rd_L5 t308 x35_2) 0)).f2)))).bind fun t320 => (if t320 = true then (impl_AddAnswers.l0 k2 l0 l1 a2 x8_2 t308 (t308.length : Int) (wrap64 (x35_2 + 1))) else ((impl_Turn_valid.f k2 ((rd_T38 l1 (rd (rd_L5 t308 x35_2) 0)).f1) (wrap64 (t318 + ((rd_T38 l1 (rd (rd_L5 t308 x35_2) 0)).f2))) a2).bind fun t321 => (if t321 = true then ((impl_Turn_48_at_impl_compareTurns.f k2 x8_2 ((rd_T38 l1 (rd (rd_L5 t308 x35_2) 0)).f1) (wrap64 (t318 + ((rd_T38 l1 (rd (rd_L5 t308 x35_2) 0)).f2))) a2).bind fun bt322 => ((impl_Turn_50.f x8_2 bt322.1 (([(⟨(rd_T38 l1 (rd (rd_L5 t308 x35_2) 0)).f1, wrap64 (t318 + ((rd_T38 l1 (rd (rd_L5 t308 x35_2) 0)).f2)), a2⟩ : S36)] : List (S36)))).bind fun t327 => (impl_AddAnswers.l0 k2 l0 l1 a2 t327 t308 (t308.length : Int) (wrap64 (x35_2 + 1))))) else (none))))) = some (r1, r2) := H
 have A28 := Aside0.mk A280
 clear A280
 replace H := Option.bind_eq_some_iff.mp H
 obtain ⟨t320, A290, H⟩ := H
 replace H : (if t320 = true then (impl_AddAnswers.l0 k2 l0 l1 a2 x8_2 t308 (t308.length : Int) (wrap64 (x35_2 + 1))) else ((impl_Turn_valid.f k2 ((rd_T38 l1 (rd (rd_L5 t308 x35_2) 0)).f1) (wrap64 (t318 + ((rd_T38 l1 (rd (rd_L5 t308 x35_2) 0)).f2))) a2).bind fun t321 => (if t321 = true then ((impl_Turn_48_at_impl_compareTurns.f k2 x8_2 ((rd_T38 l1 (rd (rd_L5 t308 x35_2) 0)).f1) (wrap64 (t318 + ((rd_T38 l1 (rd (rd_L5 t308 x35_2) 0)).f2))) a2).bind fun bt322 => ((impl_Turn_50.f x8_2 bt322.1 (([(⟨(rd_T38 l1 (rd (rd_L5 t308 x35_2) 0)).f1, wrap64 (t318 + ((rd_T38 l1 (rd (rd_L5 t308 x35_2) 0)).f2)), a2⟩ : S36)] : List (S36)))).bind fun t327 => (impl_AddAnswers.l0 k2 l0 l1 a2 t327 t308 (t308.length : Int) (wrap64 (x35_2 + 1))))) else (none)))) = some (r1, r2) := H
 have A29 := Aside0.mk A290
 clear A290
 by_cases c30 : t320 = true
 {
 subst c30
 have H1 : (impl_AddAnswers.l0 k2 l0 l1 a2 x8_2 t308 (t308.length : Int) (wrap64 (x35_2 + 1))) = some (r1, r2) := by rw [if_pos rfl] at H; exact H
 clear H
 have H := H1
 clear H1
 have H' := Aside0.mk H
 clear H
 have p311 : 0 ≤ (x35_2 : Int) := of_decide_eq_true (by first | (with_reducible assumption) | assumption)
 have q311 : x35_2 < (t308.length : Int) := of_decide_eq_true (by first | (with_reducible assumption) | assumption)
 obtain ⟨ad311, A311_0, c311_0, e311, hx311_0, hl311_0, hi311_0⟩ := at_L5 (Kd.S_reads' HO_33.out).2.2 x35_2 p311 q311
 cases e311
 obtain ⟨ce311, hce311, hMe311, hcc311⟩ := Kd.S_get HO_33.out [] x35_2 p311 (by first | exact q311 | exact of_decide_eq_true (by first | (with_reducible assumption) | assumption) | (have e_ := (Kd.S_reads' HO_33.out).1; omega))
 obtain ⟨ve311_0, rfl, ge311_0⟩ := hMe311
 have hv311_0 := hcc311 0 _ rfl
 rw [Nat.add_zero, show ((Kd.slice 2 (Kd.int .i64))).sz = 1 from rfl, Nat.mul_one] at hv311_0
 replace hv311_0 := Option.some.inj (hv311_0.symm.trans hx311_0)
 rw [hv311_0] at ge311_0
 have HL311_0 := Aside0.mk (show Kd.R (Kd.int .i64) 2 _ _ _ _ (rd_L5 t308 x35_2) from ge311_0)
 clear hv311_0 ge311_0
 clear hcc311 hce311
 have HR311_0 := Aside0.mk hi311_0
 have HC311_0 := Aside0.mk hl311_0
 clear hi311_0 hl311_0
 replace p311 := eq_true p311
 replace q311 := eq_true q311
 try go_wp2
 have n0_ := Aside0.mk (Kd.R_drew HO_8.out)
 have n1_ := Aside0.mk (Kd.S_drew HO_33.out)
 have n2_ := Aside0.mk (Kd.R_drew HL311_0.out)
 have n3_ := Aside0.mk (Kd.C_drew HR311_0.out)
 have n4_ := Aside0.mk (below_drew1 HB.out)
 clear HO_8
 clear HO_33
 clear HL311_0
 clear HR311_0
 clear HB
 have HO_8 := n0_
 have HO_33 := n1_
 have HL311_0 := n2_
 have HR311_0 := n3_
 have HB := n4_
 clear n0_ n1_ n2_ n3_ n4_
 have p312 : 0 ≤ (0 : Int) := (by omega)
 have q312 : 0 < ((rd_L5 t308 x35_2).length : Int) := of_decide_eq_true (by first | (with_reducible assumption) | assumption)
 obtain ⟨ad312, e312, hx312_0⟩ := Kd.at_int (by repeat (first | (with_reducible exact HR311_0.out) | (with_reducible refine Kd.C_alloc ?_ _) | (with_reducible refine Kd.C_drewN ?_ _) | (with_reducible refine Kd.C_drew ?_) | exact HR311_0.out)) 0 p312 q312
 cases e312
 have qi312 : (0 < (rd_L5 t308 x35_2).length) = True := eq_true (by omega)
 (try rw [show ((0 : Int)).toNat = 0 from rfl] at hx312_0)
 (try rw [Addr.add_zero'] at hx312_0)
 replace p312 := eq_true p312
 replace q312 := eq_true q312
 have p313 : 0 ≤ ((rd (rd_L5 t308 x35_2) 0) : Int) := of_decide_eq_true (by first | (with_reducible assumption) | assumption)
 have q313 : (rd (rd_L5 t308 x35_2) 0) < (l1.length : Int) := of_decide_eq_true (by first | (with_reducible assumption) | assumption)
 obtain ⟨ad313, e313, hx313_0, hx313_1, hx313_2⟩ := at_T38 HR1.out (rd (rd_L5 t308 x35_2) 0) p313 q313
 have hw313_2 := hx313_2
 have hw313_1 := hx313_1
 have hw313_0 := hx313_0
 cases e313
 replace hx313_0 := (HB.out.cell (World.block_lt_of_cell? w _ hx313_0)).trans hx313_0
 replace hx313_1 := (HB.out.cell (World.block_lt_of_cell? w _ hx313_1)).trans hx313_1
 replace hx313_2 := (HB.out.cell (World.block_lt_of_cell? w _ hx313_2)).trans hx313_2
 replace p313 := eq_true p313
 replace q313 := eq_true q313
 have p314 : 0 ≤ (1 : Int) := (by omega)
 have q314 : 1 < ((rd_L5 t308 x35_2).length : Int) := of_decide_eq_true (by first | (with_reducible assumption) | assumption)
 obtain ⟨ad314, e314, hx314_0⟩ := Kd.at_int (by repeat (first | (with_reducible exact HR311_0.out) | (with_reducible refine Kd.C_alloc ?_ _) | (with_reducible refine Kd.C_drewN ?_ _) | (with_reducible refine Kd.C_drew ?_) | exact HR311_0.out)) 1 p314 q314
 obtain rfl : ad312 = ad314 := (by injection e314)
 (try simp only [show (1 : Int).toNat = 1 from rfl, Nat.reduceMul, Nat.reduceEqDiff, Go.Addr.add, ↓reduceIte] at hx314_0)
 have qi314 : (1 < (rd_L5 t308 x35_2).length) = True := eq_true (by omega)
 (try rw [show ((1 : Int)).toNat = 1 from rfl] at hx314_0)
 replace p314 := eq_true p314
 replace q314 := eq_true q314
 have p315 : 0 ≤ ((rd (rd_L5 t308 x35_2) 1) : Int) := of_decide_eq_true (by first | (with_reducible assumption) | assumption)
 have q315 : (rd (rd_L5 t308 x35_2) 1) < (l0.length : Int) := of_decide_eq_true (by first | (with_reducible assumption) | assumption)
 obtain ⟨ad315, e315, hx315_0, hx315_1, hx315_2⟩ := at_T36 HR0.out (rd (rd_L5 t308 x35_2) 1) p315 q315
 have hw315_2 := hx315_2
 have hw315_1 := hx315_1
 have hw315_0 := hx315_0
 cases e315
 replace hx315_0 := (HB.out.cell (World.block_lt_of_cell? w _ hx315_0)).trans hx315_0
 replace hx315_1 := (HB.out.cell (World.block_lt_of_cell? w _ hx315_1)).trans hx315_1
 replace hx315_2 := (HB.out.cell (World.block_lt_of_cell? w _ hx315_2)).trans hx315_2
 replace p315 := eq_true p315
 replace q315 := eq_true q315
 refine start_ (n := 16) (S := fun w' => w'.cell? ad312 = some (.int .i64 (rd (rd_L5 t308 x35_2) 0)) ∧ w'.cell? (ad313.add (((rd (rd_L5 t308 x35_2) 0)).toNat * 3)) = some (.string ((rd_T38 l1 (rd (rd_L5 t308 x35_2) 0)).f0)) ∧ w'.cell? ⟨(ad313.add (((rd (rd_L5 t308 x35_2) 0)).toNat * 3)).block, (ad313.add (((rd (rd_L5 t308 x35_2) 0)).toNat * 3)).off + 1, none⟩ = some (.string ((rd_T38 l1 (rd (rd_L5 t308 x35_2) 0)).f1)) ∧ w'.cell? ⟨(ad313.add (((rd (rd_L5 t308 x35_2) 0)).toNat * 3)).block, (ad313.add (((rd (rd_L5 t308 x35_2) 0)).toNat * 3)).off + 2, none⟩ = some (.int .i64 ((rd_T38 l1 (rd (rd_L5 t308 x35_2) 0)).f2)) ∧ w'.cell? ⟨ad312.block, ad312.off + 1, none⟩ = some (.int .i64 (rd (rd_L5 t308 x35_2) 1)) ∧ w'.cell? (ad315.add (((rd (rd_L5 t308 x35_2) 1)).toNat * 3)) = some (.string ((rd_T36 l0 (rd (rd_L5 t308 x35_2) 1)).f0)) ∧ w'.cell? ⟨(ad315.add (((rd (rd_L5 t308 x35_2) 1)).toNat * 3)).block, (ad315.add (((rd (rd_L5 t308 x35_2) 1)).toNat * 3)).off + 1, none⟩ = some (.int .i64 ((rd_T36 l0 (rd (rd_L5 t308 x35_2) 1)).f1)) ∧ w'.cell? ⟨(ad315.add (((rd (rd_L5 t308 x35_2) 1)).toNat * 3)).block, (ad315.add (((rd (rd_L5 t308 x35_2) 1)).toNat * 3)).off + 2, none⟩ = some (.int .i64 ((rd_T36 l0 (rd (rd_L5 t308 x35_2) 1)).f2))) (ds := []) #[false, false, false, false, false, false, false, false, false, false, false, false, false, false, false, false] (by kernel_rfl) rfl rfl ⟨hx312_0, ((HB.out.cell (World.block_lt_of_cell? w _ hw313_0)).trans hw313_0), ((HB.out.cell (World.block_lt_of_cell? w _ hw313_1)).trans hw313_1), ((HB.out.cell (World.block_lt_of_cell? w _ hw313_2)).trans hw313_2), hx314_0, ((HB.out.cell (World.block_lt_of_cell? w _ hw315_0)).trans hw315_0), ((HB.out.cell (World.block_lt_of_cell? w _ hw315_1)).trans hw315_1), ((HB.out.cell (World.block_lt_of_cell? w _ hw315_2)).trans hw315_2)⟩ (fun hHeld => ?_); refine with_tabW impl_AddAnswers.tab9 impl_AddAnswers.bits9 (fun HT_ HW_ => ?_)
 generalize wr.drew = w31 at HO_8 HO_33 HL311_0 HR311_0 HB hx312_0 hx313_0 hx313_1 hx313_2 hx314_0 hx315_0 hx315_1 hx315_2 hHeld ⊢
 refine pure_ (i := 0) (N := some 39) (v := ?_) (a' := ?_) #[true, false, false, false, false, false, false, false, false, false, false, false, false, false, false, false] rfl rfl (any_of HT_.out (by kernel_rfl)) (fun _ _ _ h => h) (Or.inl ⟨by rfl, ?_⟩) ?_ ?_
 rotate_left
 {
 intro w'
 go_simp
 with_reducible rfl
 }
 rotate_left
 {
 simp only [Act.put, List.setIfInBounds_toArray, List.set_cons_zero, List.set_cons_succ, i64_w, i32_w]
 rfl
 }
 refine pure_ (i := 1) (N := some 40) (v := ?_) (a' := ?_) #[true, true, false, false, false, false, false, false, false, false, false, false, false, false, false, false] rfl rfl (any_of HT_.out (by kernel_rfl)) (fun _ _ _ h => h) (Or.inl ⟨by rfl, ?_⟩) ?_ ?_
 rotate_left
 {
 intro w'
 go_simp
 with_reducible rfl
 }
 rotate_left
 {
 simp only [Act.put, List.setIfInBounds_toArray, List.set_cons_zero, List.set_cons_succ, i64_w, i32_w]
 rfl
 }
 refine pure_ (i := 2) (N := some 41) (v := ?_) (a' := ?_) #[true, true, true, false, false, false, false, false, false, false, false, false, false, false, false, false] rfl rfl (any_of HT_.out (by kernel_rfl)) (fun _ _ _ h => h) (Or.inl ⟨by rfl, ?_⟩) ?_ ?_
 rotate_left
 {
 intro w'
 go_simp
 with_reducible rfl
 }
 rotate_left
 {
 simp only [Act.put, List.setIfInBounds_toArray, List.set_cons_zero, List.set_cons_succ, i64_w, i32_w]
 rfl
 }
 refine pure_ (i := 6) (N := some 45) (v := ?_) (a' := ?_) #[true, true, true, false, false, false, true, false, false, false, false, false, false, false, false, false] rfl rfl (any_of HT_.out (by kernel_rfl)) (fun _ _ _ h => h) (Or.inl ⟨by rfl, ?_⟩) ?_ ?_
 rotate_left
 {
 intro w'
 go_simp
 with_reducible rfl
 }
 rotate_left
 {
 simp only [Act.put, List.setIfInBounds_toArray, List.set_cons_zero, List.set_cons_succ, i64_w, i32_w]
 rfl
 }
 refine pure_ (i := 7) (N := some 46) (v := ?_) (a' := ?_) #[true, true, true, false, false, false, true, true, false, false, false, false, false, false, false, false] rfl rfl (any_of HT_.out (by kernel_rfl)) (fun _ _ _ h => h) (Or.inl ⟨by rfl, ?_⟩) ?_ ?_
 rotate_left
 {
 intro w'
 go_simp
 with_reducible rfl
 }
 rotate_left
 {
 simp only [Act.put, List.setIfInBounds_toArray, List.set_cons_zero, List.set_cons_succ, i64_w, i32_w]
 rfl
 }
 refine pure_ (i := 8) (N := some 47) (v := ?_) (a' := ?_) #[true, true, true, false, false, false, true, true, true, false, false, false, false, false, false, false] rfl rfl (any_of HT_.out (by kernel_rfl)) (fun _ _ _ h => h) (Or.inl ⟨by rfl, ?_⟩) ?_ ?_
 rotate_left
 {
 intro w'
 go_simp
 with_reducible rfl
 }
 rotate_left
 {
 simp only [Act.put, List.setIfInBounds_toArray, List.set_cons_zero, List.set_cons_succ, i64_w, i32_w]
 rfl
 }
 refine take_ (i := 3) (N := some 42) (v := ?_) (a' := ?_) #[true, true, true, true, false, false, true, true, true, false, false, false, false, false, false, false] rfl rfl (take_ofW HT_.out HW_.out (by kernel_rfl)) (fun _ _ _ h => h) (Or.inl ⟨by rfl, ?_⟩) hHeld ?_ ?_
 rotate_left
 {
 rintro w' ⟨s0, s1, s2, s3, s4, s5, s6, s7⟩
 go_simp
 with_reducible rfl
 }
 rotate_left
 {
 simp only [Act.put, List.setIfInBounds_toArray, List.set_cons_zero, List.set_cons_succ, i64_w, i32_w]
 rfl
 }
 refine pure_ (i := 4) (N := some 43) (v := ?_) (a' := ?_) #[true, true, true, true, true, false, true, true, true, false, false, false, false, false, false, false] rfl rfl (any_of HT_.out (by kernel_rfl)) (fun _ _ _ h => h) (Or.inl ⟨by rfl, ?_⟩) ?_ ?_
 rotate_left
 {
 intro w'
 go_simp
 with_reducible rfl
 }
 rotate_left
 {
 simp only [Act.put, List.setIfInBounds_toArray, List.set_cons_zero, List.set_cons_succ, i64_w, i32_w]
 rfl
 }
 refine take_ (i := 5) (N := some 44) (v := ?_) (a' := ?_) #[true, true, true, true, true, true, true, true, true, false, false, false, false, false, false, false] rfl rfl (take_ofW HT_.out HW_.out (by kernel_rfl)) (fun _ _ _ h => h) (Or.inl ⟨by rfl, ?_⟩) hHeld ?_ ?_
 rotate_left
 {
 rintro w' ⟨s0, s1, s2, s3, s4, s5, s6, s7⟩
 go_simp
 with_reducible rfl
 }
 rotate_left
 {
 simp only [Act.put, List.setIfInBounds_toArray, List.set_cons_zero, List.set_cons_succ, i64_w, i32_w]
 rfl
 }
 refine take_ (i := 9) (N := some 48) (v := ?_) (a' := ?_) #[true, true, true, true, true, true, true, true, true, true, false, false, false, false, false, false] rfl rfl (take_ofW HT_.out HW_.out (by kernel_rfl)) (fun _ _ _ h => h) (Or.inl ⟨by rfl, ?_⟩) hHeld ?_ ?_
 rotate_left
 {
 rintro w' ⟨s0, s1, s2, s3, s4, s5, s6, s7⟩
 go_simp
 with_reducible rfl
 }
 rotate_left
 {
 simp only [Act.put, List.setIfInBounds_toArray, List.set_cons_zero, List.set_cons_succ, i64_w, i32_w]
 rfl
 }
 refine pure_ (i := 10) (N := some 49) (v := ?_) (a' := ?_) #[true, true, true, true, true, true, true, true, true, true, true, false, false, false, false, false] rfl rfl (any_of HT_.out (by kernel_rfl)) (fun _ _ _ h => h) (Or.inl ⟨by rfl, ?_⟩) ?_ ?_
 rotate_left
 {
 intro w'
 go_simp
 with_reducible rfl
 }
 rotate_left
 {
 simp only [Act.put, List.setIfInBounds_toArray, List.set_cons_zero, List.set_cons_succ, i64_w, i32_w]
 rfl
 }
 refine take_ (i := 11) (N := some 50) (v := ?_) (a' := ?_) #[true, true, true, true, true, true, true, true, true, true, true, true, false, false, false, false] rfl rfl (take_ofW HT_.out HW_.out (by kernel_rfl)) (fun _ _ _ h => h) (Or.inl ⟨by rfl, ?_⟩) hHeld ?_ ?_
 rotate_left
 {
 rintro w' ⟨s0, s1, s2, s3, s4, s5, s6, s7⟩
 go_simp
 with_reducible rfl
 }
 rotate_left
 {
 simp only [Act.put, List.setIfInBounds_toArray, List.set_cons_zero, List.set_cons_succ, i64_w, i32_w]
 rfl
 }
 refine join_ (σ := Nat × Nat) 2 #[true, true, true, true, true, true, true, true, true, true, true, true, true, true, false, false] (fun s_ => [(11, .pointer (some ⟨s_.1, 0, none⟩)), (12, .pointer (some ⟨s_.2, 0, none⟩))]) (fun s_ w' => (w'.cell? ad312 = some (.int .i64 (rd (rd_L5 t308 x35_2) 0)) ∧ w'.cell? (ad313.add (((rd (rd_L5 t308 x35_2) 0)).toNat * 3)) = some (.string ((rd_T38 l1 (rd (rd_L5 t308 x35_2) 0)).f0)) ∧ w'.cell? ⟨(ad313.add (((rd (rd_L5 t308 x35_2) 0)).toNat * 3)).block, (ad313.add (((rd (rd_L5 t308 x35_2) 0)).toNat * 3)).off + 1, none⟩ = some (.string ((rd_T38 l1 (rd (rd_L5 t308 x35_2) 0)).f1)) ∧ w'.cell? ⟨(ad313.add (((rd (rd_L5 t308 x35_2) 0)).toNat * 3)).block, (ad313.add (((rd (rd_L5 t308 x35_2) 0)).toNat * 3)).off + 2, none⟩ = some (.int .i64 ((rd_T38 l1 (rd (rd_L5 t308 x35_2) 0)).f2)) ∧ w'.cell? ⟨ad312.block, ad312.off + 1, none⟩ = some (.int .i64 (rd (rd_L5 t308 x35_2) 1)) ∧ w'.cell? (ad315.add (((rd (rd_L5 t308 x35_2) 1)).toNat * 3)) = some (.string ((rd_T36 l0 (rd (rd_L5 t308 x35_2) 1)).f0)) ∧ w'.cell? ⟨(ad315.add (((rd (rd_L5 t308 x35_2) 1)).toNat * 3)).block, (ad315.add (((rd (rd_L5 t308 x35_2) 1)).toNat * 3)).off + 1, none⟩ = some (.int .i64 ((rd_T36 l0 (rd (rd_L5 t308 x35_2) 1)).f1)) ∧ w'.cell? ⟨(ad315.add (((rd (rd_L5 t308 x35_2) 1)).toNat * 3)).block, (ad315.add (((rd (rd_L5 t308 x35_2) 1)).toNat * 3)).off + 2, none⟩ = some (.int .i64 ((rd_T36 l0 (rd (rd_L5 t308 x35_2) 1)).f2))) ∧ (Kd.R (Kd.int .i64) 2 w' w.heap.size (fun k_ => some k_ ≠ (.slice (some ad311) t308.length co18 : Value).ownBlock) (.slice (some ad312) (rd_L5 t308 x35_2).length c311_0) (rd_L5 t308 x35_2)) ∧ (Kd.S (Kd.slice 2 (Kd.int .i64)) 34 w' w.heap.size (fun _ => True) (.slice (some ad311) t308.length co18) t308) ∧ (Kd.R k36 36 w' w.heap.size (fun k_ => k_ ≠ s_.2) u8 x8_2) ∧ (w'.heap[s_.1]? = some (.cells #[.string (⟨#[]⟩ : ByteArray), .string (⟨#[]⟩ : ByteArray), .int .i64 0] 38 (0, 0))) ∧ (w'.heap[s_.2]? = some (.cells #[.string (⟨#[]⟩ : ByteArray), .int .i64 0, .int .i64 0] 36 (0, 0))) ∧ (w.heap.size ≤ s_.1) ∧ (w.heap.size ≤ s_.1) ∧ (s_.2 ≠ s_.1) ∧ (s_.1 ≠ s_.2) ∧ (w.heap.size ≤ s_.2) ∧ (w.heap.size ≤ s_.2) ∧ (Below w.heap.size w w')) ?_ ?_
 rotate_left
 {
 intro hCont
 refine two_ (i := 12) (j := 13) (Ni := some 11) (Nj := some 12) #[true, true, true, true, true, true, true, true, true, true, true, true, true, false, false, false] #[true, true, true, true, true, true, true, true, true, true, true, true, false, true, false, false] rfl rfl rfl rfl (two_of HT_.out (by kernel_rfl)) (by decide) (by decide) (fun K hK => ?_) (fun K hK => ?_)
 {
 skip
 refine box_step ?hg (N := 11) ?hd (cs := #[.string (⟨#[]⟩ : ByteArray), .string (⟨#[]⟩ : ByteArray), .int .i64 0]) (t := 38) ?hr ?_; (case hd => rfl); (case hg => rfl); (case hr => first | (go_simp; done) | (go_simp; rfl))
 intro gb316 hg w32 hbox hb
 have HS0_ := (hb.cell (World.block_lt_of_cell? _ _ (hHeld.1))).trans (hHeld.1)
 have HS4_ := (hb.cell (World.block_lt_of_cell? _ _ (hHeld.2.2.2.2.1))).trans (hHeld.2.2.2.2.1)
 have n0_ := Aside0.mk (Kd.R_below (by (with_reducible repeat (first | apply Kd.R_alloc | apply Kd.R_drewN | apply Kd.R_drew)); exact HO_8.out) hb)
 have n1_ := Aside0.mk (Kd.S_below (by (with_reducible repeat (first | apply Kd.S_alloc | apply Kd.S_drewN | apply Kd.S_drew)); exact HO_33.out) hb)
 have n2_ := Aside0.mk (Kd.R_below (by (with_reducible repeat (first | apply Kd.R_alloc | apply Kd.R_drewN | apply Kd.R_drew)); exact HL311_0.out) hb)
 have n3_ := Aside0.mk (Kd.C_below (by repeat (first | (with_reducible exact HR311_0.out) | (with_reducible refine Kd.C_alloc ?_ _) | (with_reducible refine Kd.C_drewN ?_ _) | (with_reducible refine Kd.C_drew ?_) | exact HR311_0.out)) hb)
 have n4_ := Aside0.mk (below_step (by repeat (first | (with_reducible first | exact HB.out | apply below_alloc | apply pw_below_drewN | apply below_drew1) | exact HB.out)) hb)
 have n5_ := Aside0.mk (hbox)
 have n6_ := Aside0.mk ((by rw [hg]; exact (below_size (by repeat (first | (with_reducible first | exact HB.out | apply below_alloc | apply pw_below_drewN | apply below_drew1) | exact HB.out))) : w.heap.size ≤ gb316))
 have n7_ := Aside0.mk ((by rw [hg]; exact (below_size (by repeat (first | (with_reducible first | exact HB.out | apply below_alloc | apply pw_below_drewN | apply below_drew1) | exact HB.out))) : w.heap.size ≤ gb316))
 clear HO_8
 clear HO_33
 clear HL311_0
 clear HR311_0
 clear HB
 have HO_8 := n0_
 have HO_33 := n1_
 have HL311_0 := n2_
 have HR311_0 := n3_
 have HB := n4_
 have BK316 := n5_
 have GW316 := n6_
 have GE316 := n7_
 clear n0_ n1_ n2_ n3_ n4_ n5_ n6_ n7_
 clear hb hbox hg
 refine hK.out _ _ ⟨HS0_, ((HB.out.cell (World.block_lt_of_cell? w _ hw313_0)).trans hw313_0), ((HB.out.cell (World.block_lt_of_cell? w _ hw313_1)).trans hw313_1), ((HB.out.cell (World.block_lt_of_cell? w _ hw313_2)).trans hw313_2), HS4_, ((HB.out.cell (World.block_lt_of_cell? w _ hw315_0)).trans hw315_0), ((HB.out.cell (World.block_lt_of_cell? w _ hw315_1)).trans hw315_1), ((HB.out.cell (World.block_lt_of_cell? w _ hw315_2)).trans hw315_2)⟩ (fun hHeld => ?_)
 clear hK K
 refine norm_ (a' := ?_) ?_ ?_
 rotate_left
 {
 show Act.put _ (some 11) _ = _
 simp only [Act.put, List.setIfInBounds_toArray, List.set_cons_zero, List.set_cons_succ, i64_w, i32_w]
 rfl
 }
 refine one_ (i := 13) (N := some 12) #[true, true, true, true, true, true, true, true, true, true, true, true, true, true, false, false] rfl rfl (one_of HT_.out (by kernel_rfl)) (by decide) (fun K hK => ?_)
 refine box_step ?hg (N := 12) ?hd (cs := #[.string (⟨#[]⟩ : ByteArray), .int .i64 0, .int .i64 0]) (t := 36) ?hr ?_; (case hd => rfl); (case hg => rfl); (case hr => first | (go_simp; done) | (go_simp; rfl))
 intro gb317 hg w33 hbox hb
 have HS0_ := (hb.cell (World.block_lt_of_cell? _ _ (hHeld.1))).trans (hHeld.1)
 have HS4_ := (hb.cell (World.block_lt_of_cell? _ _ (hHeld.2.2.2.2.1))).trans (hHeld.2.2.2.2.1)
 have n0_ := Aside0.mk (Kd.R_below (Kd.R_elderB (by (with_reducible repeat (first | apply Kd.R_alloc | apply Kd.R_drewN | apply Kd.R_drew)); exact HO_8.out) gb317 (Nat.le_of_eq hg.symm)) hb)
 have n1_ := Aside0.mk (Kd.S_below (by (with_reducible repeat (first | apply Kd.S_alloc | apply Kd.S_drewN | apply Kd.S_drew)); exact HO_33.out) hb)
 have n2_ := Aside0.mk (Kd.R_below (by (with_reducible repeat (first | apply Kd.R_alloc | apply Kd.R_drewN | apply Kd.R_drew)); exact HL311_0.out) hb)
 have n3_ := Aside0.mk (Kd.C_below (by repeat (first | (with_reducible exact HR311_0.out) | (with_reducible refine Kd.C_alloc ?_ _) | (with_reducible refine Kd.C_drewN ?_ _) | (with_reducible refine Kd.C_drew ?_) | exact HR311_0.out)) hb)
 have n4_ := Aside0.mk (blk_below (g := gb316) (o := .cells #[.string (⟨#[]⟩ : ByteArray), .string (⟨#[]⟩ : ByteArray), .int .i64 0] 38 (0, 0)) (by (with_reducible repeat (first | refine blk_drewN ?_ _ | refine blk_drew ?_ | refine blk_alloc ?_ _)); exact BK316.out) hb)
 have n5_ := Aside0.mk (below_step (by repeat (first | (with_reducible first | exact HB.out | apply below_alloc | apply pw_below_drewN | apply below_drew1 | refine below_set ?_ GE316.out) | exact HB.out)) hb)
 have n6_ := Aside0.mk (hbox)
 have n7_ := Aside0.mk ((by rw [hg]; exact (below_size (by repeat (first | (with_reducible first | exact HB.out | apply below_alloc | apply pw_below_drewN | apply below_drew1 | refine below_set ?_ GE316.out) | exact HB.out))) : w.heap.size ≤ gb317))
 have n8_ := Aside0.mk ((by rw [hg]; exact (below_size (by repeat (first | (with_reducible first | exact HB.out | apply below_alloc | apply pw_below_drewN | apply below_drew1 | refine below_set ?_ GE316.out) | exact HB.out))) : w.heap.size ≤ gb317))
 have n9_ := Aside0.mk ((by rw [hg]; exact Nat.ne_of_lt (blk_lt (g := gb316) (o := .cells #[.string (⟨#[]⟩ : ByteArray), .string (⟨#[]⟩ : ByteArray), .int .i64 0] 38 (0, 0)) (by (with_reducible repeat (first | refine blk_drewN ?_ _ | refine blk_drew ?_ | refine blk_alloc ?_ _)); exact BK316.out)) : gb316 ≠ gb317))
 have n10_ := Aside0.mk ((by rw [hg]; exact Nat.ne_of_gt (blk_lt (g := gb316) (o := .cells #[.string (⟨#[]⟩ : ByteArray), .string (⟨#[]⟩ : ByteArray), .int .i64 0] 38 (0, 0)) (by (with_reducible repeat (first | refine blk_drewN ?_ _ | refine blk_drew ?_ | refine blk_alloc ?_ _)); exact BK316.out)) : gb317 ≠ gb316))
 clear HO_8
 clear HO_33
 clear HL311_0
 clear HR311_0
 clear BK316
 clear HB
 have HO_8 := n0_
 have HO_33 := n1_
 have HL311_0 := n2_
 have HR311_0 := n3_
 have BK316 := n4_
 have HB := n5_
 have BK317 := n6_
 have GW317 := n7_
 have GE317 := n8_
 have NB316_317 := n9_
 have NB317_316 := n10_
 clear n0_ n1_ n2_ n3_ n4_ n5_ n6_ n7_ n8_ n9_ n10_
 clear hb hbox hg
 refine hK.out _ _ ⟨HS0_, ((HB.out.cell (World.block_lt_of_cell? w _ hw313_0)).trans hw313_0), ((HB.out.cell (World.block_lt_of_cell? w _ hw313_1)).trans hw313_1), ((HB.out.cell (World.block_lt_of_cell? w _ hw313_2)).trans hw313_2), HS4_, ((HB.out.cell (World.block_lt_of_cell? w _ hw315_0)).trans hw315_0), ((HB.out.cell (World.block_lt_of_cell? w _ hw315_1)).trans hw315_1), ((HB.out.cell (World.block_lt_of_cell? w _ hw315_2)).trans hw315_2)⟩ (fun hHeld => ?_)
 clear hK K
 refine norm_ (a' := ?_) ?_ ?_
 rotate_left
 {
 show Act.put _ (some 12) _ = _
 simp only [Act.put, List.setIfInBounds_toArray, List.set_cons_zero, List.set_cons_succ, i64_w, i32_w]
 rfl
 }
 exact norm_ (by simp only [putAll, Act.put, List.setIfInBounds_toArray, List.set_cons_zero, List.set_cons_succ]) (hCont (gb316, gb317) _ ⟨hHeld, (by (with_reducible repeat (first | apply Kd.R_alloc | apply Kd.R_drewN | apply Kd.R_drew)); exact Kd.R_mono HL311_0.out (fun _ hk => hk.2)), (by (with_reducible repeat (first | apply Kd.S_alloc | apply Kd.S_drewN | apply Kd.S_drew)); exact HO_33.out), (by (with_reducible repeat (first | apply Kd.R_alloc | apply Kd.R_drewN | apply Kd.R_drew)); exact Kd.R_mono HO_8.out (fun _ hk => hk.2)), (by (with_reducible repeat (first | refine blk_drewN ?_ _ | refine blk_drew ?_ | refine blk_alloc ?_ _)); exact BK316.out), (by (with_reducible repeat (first | refine blk_drewN ?_ _ | refine blk_drew ?_ | refine blk_alloc ?_ _)); exact BK317.out), GW316.out, GE316.out, NB317_316.out, NB316_317.out, GW317.out, GE317.out, (by repeat (first | (with_reducible first | exact HB.out | apply below_alloc | apply pw_below_drewN | apply below_drew1 | refine below_set ?_ GE316.out | refine below_set ?_ GE317.out) | exact HB.out))⟩)
 }
 {
 skip
 refine box_step ?hg (N := 12) ?hd (cs := #[.string (⟨#[]⟩ : ByteArray), .int .i64 0, .int .i64 0]) (t := 36) ?hr ?_; (case hd => rfl); (case hg => rfl); (case hr => first | (go_simp; done) | (go_simp; rfl))
 intro gb317 hg w32 hbox hb
 have HS0_ := (hb.cell (World.block_lt_of_cell? _ _ (hHeld.1))).trans (hHeld.1)
 have HS4_ := (hb.cell (World.block_lt_of_cell? _ _ (hHeld.2.2.2.2.1))).trans (hHeld.2.2.2.2.1)
 have n0_ := Aside0.mk (Kd.R_below (Kd.R_elderB (by (with_reducible repeat (first | apply Kd.R_alloc | apply Kd.R_drewN | apply Kd.R_drew)); exact HO_8.out) gb317 (Nat.le_of_eq hg.symm)) hb)
 have n1_ := Aside0.mk (Kd.S_below (by (with_reducible repeat (first | apply Kd.S_alloc | apply Kd.S_drewN | apply Kd.S_drew)); exact HO_33.out) hb)
 have n2_ := Aside0.mk (Kd.R_below (by (with_reducible repeat (first | apply Kd.R_alloc | apply Kd.R_drewN | apply Kd.R_drew)); exact HL311_0.out) hb)
 have n3_ := Aside0.mk (Kd.C_below (by repeat (first | (with_reducible exact HR311_0.out) | (with_reducible refine Kd.C_alloc ?_ _) | (with_reducible refine Kd.C_drewN ?_ _) | (with_reducible refine Kd.C_drew ?_) | exact HR311_0.out)) hb)
 have n4_ := Aside0.mk (below_step (by repeat (first | (with_reducible first | exact HB.out | apply below_alloc | apply pw_below_drewN | apply below_drew1) | exact HB.out)) hb)
 have n5_ := Aside0.mk (hbox)
 have n6_ := Aside0.mk ((by rw [hg]; exact (below_size (by repeat (first | (with_reducible first | exact HB.out | apply below_alloc | apply pw_below_drewN | apply below_drew1) | exact HB.out))) : w.heap.size ≤ gb317))
 have n7_ := Aside0.mk ((by rw [hg]; exact (below_size (by repeat (first | (with_reducible first | exact HB.out | apply below_alloc | apply pw_below_drewN | apply below_drew1) | exact HB.out))) : w.heap.size ≤ gb317))
 clear HO_8
 clear HO_33
 clear HL311_0
 clear HR311_0
 clear HB
 have HO_8 := n0_
 have HO_33 := n1_
 have HL311_0 := n2_
 have HR311_0 := n3_
 have HB := n4_
 have BK317 := n5_
 have GW317 := n6_
 have GE317 := n7_
 clear n0_ n1_ n2_ n3_ n4_ n5_ n6_ n7_
 clear hb hbox hg
 refine hK.out _ _ ⟨HS0_, ((HB.out.cell (World.block_lt_of_cell? w _ hw313_0)).trans hw313_0), ((HB.out.cell (World.block_lt_of_cell? w _ hw313_1)).trans hw313_1), ((HB.out.cell (World.block_lt_of_cell? w _ hw313_2)).trans hw313_2), HS4_, ((HB.out.cell (World.block_lt_of_cell? w _ hw315_0)).trans hw315_0), ((HB.out.cell (World.block_lt_of_cell? w _ hw315_1)).trans hw315_1), ((HB.out.cell (World.block_lt_of_cell? w _ hw315_2)).trans hw315_2)⟩ (fun hHeld => ?_)
 clear hK K
 refine norm_ (a' := ?_) ?_ ?_
 rotate_left
 {
 show Act.put _ (some 12) _ = _
 simp only [Act.put, List.setIfInBounds_toArray, List.set_cons_zero, List.set_cons_succ, i64_w, i32_w]
 rfl
 }
 refine one_ (i := 12) (N := some 11) #[true, true, true, true, true, true, true, true, true, true, true, true, true, true, false, false] rfl rfl (one_of HT_.out (by kernel_rfl)) (by decide) (fun K hK => ?_)
 refine box_step ?hg (N := 11) ?hd (cs := #[.string (⟨#[]⟩ : ByteArray), .string (⟨#[]⟩ : ByteArray), .int .i64 0]) (t := 38) ?hr ?_; (case hd => rfl); (case hg => rfl); (case hr => first | (go_simp; done) | (go_simp; rfl))
 intro gb316 hg w33 hbox hb
 have HS0_ := (hb.cell (World.block_lt_of_cell? _ _ (hHeld.1))).trans (hHeld.1)
 have HS4_ := (hb.cell (World.block_lt_of_cell? _ _ (hHeld.2.2.2.2.1))).trans (hHeld.2.2.2.2.1)
 have n0_ := Aside0.mk (Kd.R_below (by (with_reducible repeat (first | apply Kd.R_alloc | apply Kd.R_drewN | apply Kd.R_drew)); exact HO_8.out) hb)
 have n1_ := Aside0.mk (Kd.S_below (by (with_reducible repeat (first | apply Kd.S_alloc | apply Kd.S_drewN | apply Kd.S_drew)); exact HO_33.out) hb)
 have n2_ := Aside0.mk (Kd.R_below (by (with_reducible repeat (first | apply Kd.R_alloc | apply Kd.R_drewN | apply Kd.R_drew)); exact HL311_0.out) hb)
 have n3_ := Aside0.mk (Kd.C_below (by repeat (first | (with_reducible exact HR311_0.out) | (with_reducible refine Kd.C_alloc ?_ _) | (with_reducible refine Kd.C_drewN ?_ _) | (with_reducible refine Kd.C_drew ?_) | exact HR311_0.out)) hb)
 have n4_ := Aside0.mk (blk_below (g := gb317) (o := .cells #[.string (⟨#[]⟩ : ByteArray), .int .i64 0, .int .i64 0] 36 (0, 0)) (by (with_reducible repeat (first | refine blk_drewN ?_ _ | refine blk_drew ?_ | refine blk_alloc ?_ _)); exact BK317.out) hb)
 have n5_ := Aside0.mk (below_step (by repeat (first | (with_reducible first | exact HB.out | apply below_alloc | apply pw_below_drewN | apply below_drew1 | refine below_set ?_ GE317.out) | exact HB.out)) hb)
 have n6_ := Aside0.mk (hbox)
 have n7_ := Aside0.mk ((by rw [hg]; exact (below_size (by repeat (first | (with_reducible first | exact HB.out | apply below_alloc | apply pw_below_drewN | apply below_drew1 | refine below_set ?_ GE317.out) | exact HB.out))) : w.heap.size ≤ gb316))
 have n8_ := Aside0.mk ((by rw [hg]; exact (below_size (by repeat (first | (with_reducible first | exact HB.out | apply below_alloc | apply pw_below_drewN | apply below_drew1 | refine below_set ?_ GE317.out) | exact HB.out))) : w.heap.size ≤ gb316))
 have n9_ := Aside0.mk ((by rw [hg]; exact Nat.ne_of_lt (blk_lt (g := gb317) (o := .cells #[.string (⟨#[]⟩ : ByteArray), .int .i64 0, .int .i64 0] 36 (0, 0)) (by (with_reducible repeat (first | refine blk_drewN ?_ _ | refine blk_drew ?_ | refine blk_alloc ?_ _)); exact BK317.out)) : gb317 ≠ gb316))
 have n10_ := Aside0.mk ((by rw [hg]; exact Nat.ne_of_gt (blk_lt (g := gb317) (o := .cells #[.string (⟨#[]⟩ : ByteArray), .int .i64 0, .int .i64 0] 36 (0, 0)) (by (with_reducible repeat (first | refine blk_drewN ?_ _ | refine blk_drew ?_ | refine blk_alloc ?_ _)); exact BK317.out)) : gb316 ≠ gb317))
 clear HO_8
 clear HO_33
 clear HL311_0
 clear HR311_0
 clear BK317
 clear HB
 have HO_8 := n0_
 have HO_33 := n1_
 have HL311_0 := n2_
 have HR311_0 := n3_
 have BK317 := n4_
 have HB := n5_
 have BK316 := n6_
 have GW316 := n7_
 have GE316 := n8_
 have NB317_316 := n9_
 have NB316_317 := n10_
 clear n0_ n1_ n2_ n3_ n4_ n5_ n6_ n7_ n8_ n9_ n10_
 clear hb hbox hg
 refine hK.out _ _ ⟨HS0_, ((HB.out.cell (World.block_lt_of_cell? w _ hw313_0)).trans hw313_0), ((HB.out.cell (World.block_lt_of_cell? w _ hw313_1)).trans hw313_1), ((HB.out.cell (World.block_lt_of_cell? w _ hw313_2)).trans hw313_2), HS4_, ((HB.out.cell (World.block_lt_of_cell? w _ hw315_0)).trans hw315_0), ((HB.out.cell (World.block_lt_of_cell? w _ hw315_1)).trans hw315_1), ((HB.out.cell (World.block_lt_of_cell? w _ hw315_2)).trans hw315_2)⟩ (fun hHeld => ?_)
 clear hK K
 refine norm_ (a' := ?_) ?_ ?_
 rotate_left
 {
 show Act.put _ (some 11) _ = _
 simp only [Act.put, List.setIfInBounds_toArray, List.set_cons_zero, List.set_cons_succ, i64_w, i32_w]
 rfl
 }
 exact norm_ (by simp only [putAll, Act.put, List.setIfInBounds_toArray, List.set_cons_zero, List.set_cons_succ]) (hCont (gb316, gb317) _ ⟨hHeld, (by (with_reducible repeat (first | apply Kd.R_alloc | apply Kd.R_drewN | apply Kd.R_drew)); exact Kd.R_mono HL311_0.out (fun _ hk => hk.2)), (by (with_reducible repeat (first | apply Kd.S_alloc | apply Kd.S_drewN | apply Kd.S_drew)); exact HO_33.out), (by (with_reducible repeat (first | apply Kd.R_alloc | apply Kd.R_drewN | apply Kd.R_drew)); exact Kd.R_mono HO_8.out (fun _ hk => hk.2)), (by (with_reducible repeat (first | refine blk_drewN ?_ _ | refine blk_drew ?_ | refine blk_alloc ?_ _)); exact BK316.out), (by (with_reducible repeat (first | refine blk_drewN ?_ _ | refine blk_drew ?_ | refine blk_alloc ?_ _)); exact BK317.out), GW316.out, GE316.out, NB317_316.out, NB316_317.out, GW317.out, GE317.out, (by repeat (first | (with_reducible first | exact HB.out | apply below_alloc | apply pw_below_drewN | apply below_drew1 | refine below_set ?_ GE317.out | refine below_set ?_ GE316.out) | exact HB.out))⟩)
 }
 }
 rintro ⟨gb316, gb317⟩ w34 ⟨hS_, h0_, h1_, h2_, h3_, h4_, h5_, h6_, h7_, h8_, h9_, h10_, h11_⟩
 have n0_ : Aside0 (Kd.R (Kd.int .i64) 2 w34 w.heap.size (fun k_ => some k_ ≠ (.slice (some ad311) t308.length co18 : Value).ownBlock) (.slice (some ad312) (rd_L5 t308 x35_2).length c311_0) (rd_L5 t308 x35_2)) := ⟨h0_⟩
 have n1_ : Aside0 (Kd.S (Kd.slice 2 (Kd.int .i64)) 34 w34 w.heap.size (fun _ => True) (.slice (some ad311) t308.length co18) t308) := ⟨h1_⟩
 have n2_ : Aside0 (Kd.R k36 36 w34 w.heap.size (fun k_ => k_ ≠ gb317) u8 x8_2) := ⟨h2_⟩
 have n3_ : Aside0 (w34.heap[gb316]? = some (.cells #[.string (⟨#[]⟩ : ByteArray), .string (⟨#[]⟩ : ByteArray), .int .i64 0] 38 (0, 0))) := ⟨h3_⟩
 have n4_ : Aside0 (w34.heap[gb317]? = some (.cells #[.string (⟨#[]⟩ : ByteArray), .int .i64 0, .int .i64 0] 36 (0, 0))) := ⟨h4_⟩
 have n5_ : Aside0 (w.heap.size ≤ gb316) := ⟨h5_⟩
 have n6_ : Aside0 (w.heap.size ≤ gb316) := ⟨h6_⟩
 have n7_ : Aside0 (gb317 ≠ gb316) := ⟨h7_⟩
 have n8_ : Aside0 (gb316 ≠ gb317) := ⟨h8_⟩
 have n9_ : Aside0 (w.heap.size ≤ gb317) := ⟨h9_⟩
 have n10_ : Aside0 (w.heap.size ≤ gb317) := ⟨h10_⟩
 have n11_ : Aside0 (Below w.heap.size w w34) := ⟨h11_⟩
 clear HO_8
 clear HO_33
 clear HL311_0
 clear HR311_0
 clear HB
 clear h0_ h1_ h2_ h3_ h4_ h5_ h6_ h7_ h8_ h9_ h10_ h11_
 have HL311_0 := n0_
 have HO_33 := n1_
 have HO_8 := n2_
 have BK316 := n3_
 have BK317 := n4_
 have GW316 := n5_
 have GE316 := n6_
 have NB317_316 := n7_
 have NB316_317 := n8_
 have GW317 := n9_
 have GE317 := n10_
 have HB := n11_
 clear n0_ n1_ n2_ n3_ n4_ n5_ n6_ n7_ n8_ n9_ n10_ n11_
 have hHeld : w34.cell? ad312 = some (.int .i64 (rd (rd_L5 t308 x35_2) 0)) ∧ w34.cell? (ad313.add (((rd (rd_L5 t308 x35_2) 0)).toNat * 3)) = some (.string ((rd_T38 l1 (rd (rd_L5 t308 x35_2) 0)).f0)) ∧ w34.cell? ⟨(ad313.add (((rd (rd_L5 t308 x35_2) 0)).toNat * 3)).block, (ad313.add (((rd (rd_L5 t308 x35_2) 0)).toNat * 3)).off + 1, none⟩ = some (.string ((rd_T38 l1 (rd (rd_L5 t308 x35_2) 0)).f1)) ∧ w34.cell? ⟨(ad313.add (((rd (rd_L5 t308 x35_2) 0)).toNat * 3)).block, (ad313.add (((rd (rd_L5 t308 x35_2) 0)).toNat * 3)).off + 2, none⟩ = some (.int .i64 ((rd_T38 l1 (rd (rd_L5 t308 x35_2) 0)).f2)) ∧ w34.cell? ⟨ad312.block, ad312.off + 1, none⟩ = some (.int .i64 (rd (rd_L5 t308 x35_2) 1)) ∧ w34.cell? (ad315.add (((rd (rd_L5 t308 x35_2) 1)).toNat * 3)) = some (.string ((rd_T36 l0 (rd (rd_L5 t308 x35_2) 1)).f0)) ∧ w34.cell? ⟨(ad315.add (((rd (rd_L5 t308 x35_2) 1)).toNat * 3)).block, (ad315.add (((rd (rd_L5 t308 x35_2) 1)).toNat * 3)).off + 1, none⟩ = some (.int .i64 ((rd_T36 l0 (rd (rd_L5 t308 x35_2) 1)).f1)) ∧ w34.cell? ⟨(ad315.add (((rd (rd_L5 t308 x35_2) 1)).toNat * 3)).block, (ad315.add (((rd (rd_L5 t308 x35_2) 1)).toNat * 3)).off + 2, none⟩ = some (.int .i64 ((rd_T36 l0 (rd (rd_L5 t308 x35_2) 1)).f2)) := hS_
 refine norm_ (a' := ?_) ?_ ?_
 rotate_left
 {
 simp only [putAll, Act.put, List.setIfInBounds_toArray, List.set_cons_zero, List.set_cons_succ]
 rfl
 }
 refine one_ (i := 14) (N := none) #[true, true, true, true, true, true, true, true, true, true, true, true, true, true, true, false] rfl rfl (one_of HT_.out (by kernel_rfl)) (by decide) (fun K hK => ?_)
 have hs35 : w34.cell? ⟨gb316, 0, none⟩ = some (.string (⟨#[]⟩ : ByteArray)) := (blk_cell BK316.out 0).trans rfl
 have hfs35 := blk_frozen BK316.out 0
 have hns35_1 := NB317_316.out
 have hms35_1 := NB316_317.out
 have hs36 : w34.cell? ⟨gb316, 1, none⟩ = some (.string (⟨#[]⟩ : ByteArray)) := (blk_cell BK316.out 1).trans rfl
 have hfs36 := blk_frozen BK316.out 1
 have hns36_1 := NB317_316.out
 have hms36_1 := NB316_317.out
 have hs37 : w34.cell? ⟨gb316, 2, none⟩ = some (.int .i64 0) := (blk_cell BK316.out 2).trans rfl
 have hfs37 := blk_frozen BK316.out 2
 have hns37_1 := NB317_316.out
 have hms37_1 := NB316_317.out
 refine skip_ (w1 := ?_) (by rfl) rfl ?_ ?_
 rotate_left
 {
 go_simp
 rfl
 }
 refine hK.out _ _ ⟨(by (iterate 3 (refine (cell_far (p := ⟨gb316, _, none⟩) (by first | exact Kd.own_blk (Kd.R_ne HL311_0.out BK316.out (by decide)) | ((first | rw [add_block] | (show (Addr.add _ _).block ≠ _; rw [add_block]) | dsimp only); exact Kd.own_blk (Kd.R_ne HL311_0.out BK316.out (by decide)))) _).trans ?_)); exact hHeld.1), (by (iterate 3 (refine (cell_far (p := ⟨gb316, _, none⟩) (by first | exact Nat.ne_of_lt (Nat.lt_of_lt_of_le (by have := World.block_lt_of_cell? _ _ hw313_0; first | rwa [add_block] at this | exact this) GW316.out) | ((first | rw [add_block] | (show (Addr.add _ _).block ≠ _; rw [add_block]) | dsimp only); exact Nat.ne_of_lt (Nat.lt_of_lt_of_le (by have := World.block_lt_of_cell? _ _ hw313_0; first | rwa [add_block] at this | exact this) GW316.out))) _).trans ?_)); exact hHeld.2.1), (by (iterate 3 (refine (cell_far (p := ⟨gb316, _, none⟩) (by first | exact Nat.ne_of_lt (Nat.lt_of_lt_of_le (by have := World.block_lt_of_cell? _ _ hw313_1; first | rwa [add_block] at this | exact this) GW316.out) | ((first | rw [add_block] | (show (Addr.add _ _).block ≠ _; rw [add_block]) | dsimp only); exact Nat.ne_of_lt (Nat.lt_of_lt_of_le (by have := World.block_lt_of_cell? _ _ hw313_1; first | rwa [add_block] at this | exact this) GW316.out))) _).trans ?_)); exact hHeld.2.2.1), (by (iterate 3 (refine (cell_far (p := ⟨gb316, _, none⟩) (by first | exact Nat.ne_of_lt (Nat.lt_of_lt_of_le (by have := World.block_lt_of_cell? _ _ hw313_2; first | rwa [add_block] at this | exact this) GW316.out) | ((first | rw [add_block] | (show (Addr.add _ _).block ≠ _; rw [add_block]) | dsimp only); exact Nat.ne_of_lt (Nat.lt_of_lt_of_le (by have := World.block_lt_of_cell? _ _ hw313_2; first | rwa [add_block] at this | exact this) GW316.out))) _).trans ?_)); exact hHeld.2.2.2.1), (by (iterate 3 (refine (cell_far (p := ⟨gb316, _, none⟩) (by first | exact Kd.own_blk (Kd.R_ne HL311_0.out BK316.out (by decide)) | ((first | rw [add_block] | (show (Addr.add _ _).block ≠ _; rw [add_block]) | dsimp only); exact Kd.own_blk (Kd.R_ne HL311_0.out BK316.out (by decide)))) _).trans ?_)); exact hHeld.2.2.2.2.1), (by (iterate 3 (refine (cell_far (p := ⟨gb316, _, none⟩) (by first | exact Nat.ne_of_lt (Nat.lt_of_lt_of_le (by have := World.block_lt_of_cell? _ _ hw315_0; first | rwa [add_block] at this | exact this) GW316.out) | ((first | rw [add_block] | (show (Addr.add _ _).block ≠ _; rw [add_block]) | dsimp only); exact Nat.ne_of_lt (Nat.lt_of_lt_of_le (by have := World.block_lt_of_cell? _ _ hw315_0; first | rwa [add_block] at this | exact this) GW316.out))) _).trans ?_)); exact hHeld.2.2.2.2.2.1), (by (iterate 3 (refine (cell_far (p := ⟨gb316, _, none⟩) (by first | exact Nat.ne_of_lt (Nat.lt_of_lt_of_le (by have := World.block_lt_of_cell? _ _ hw315_1; first | rwa [add_block] at this | exact this) GW316.out) | ((first | rw [add_block] | (show (Addr.add _ _).block ≠ _; rw [add_block]) | dsimp only); exact Nat.ne_of_lt (Nat.lt_of_lt_of_le (by have := World.block_lt_of_cell? _ _ hw315_1; first | rwa [add_block] at this | exact this) GW316.out))) _).trans ?_)); exact hHeld.2.2.2.2.2.2.1), (by (iterate 3 (refine (cell_far (p := ⟨gb316, _, none⟩) (by first | exact Nat.ne_of_lt (Nat.lt_of_lt_of_le (by have := World.block_lt_of_cell? _ _ hw315_2; first | rwa [add_block] at this | exact this) GW316.out) | ((first | rw [add_block] | (show (Addr.add _ _).block ≠ _; rw [add_block]) | dsimp only); exact Nat.ne_of_lt (Nat.lt_of_lt_of_le (by have := World.block_lt_of_cell? _ _ hw315_2; first | rwa [add_block] at this | exact this) GW316.out))) _).trans ?_)); exact hHeld.2.2.2.2.2.2.2)⟩ (fun hHeld => ?_)
 clear hK K
 refine one_ (i := 15) (N := none) #[true, true, true, true, true, true, true, true, true, true, true, true, true, true, true, true] rfl rfl (one_of HT_.out (by kernel_rfl)) (by decide) (fun K hK => ?_)
 have hs38 : w34.cell? ⟨gb317, 0, none⟩ = some (.string (⟨#[]⟩ : ByteArray)) := (blk_cell BK317.out 0).trans rfl
 have hfs38 := blk_frozen BK317.out 0
 have hns38_0 := NB316_317.out
 have hms38_0 := NB317_316.out
 have hs39 : w34.cell? ⟨gb317, 1, none⟩ = some (.int .i64 0) := (blk_cell BK317.out 1).trans rfl
 have hfs39 := blk_frozen BK317.out 1
 have hns39_0 := NB316_317.out
 have hms39_0 := NB317_316.out
 have hs40 : w34.cell? ⟨gb317, 2, none⟩ = some (.int .i64 0) := (blk_cell BK317.out 2).trans rfl
 have hfs40 := blk_frozen BK317.out 2
 have hns40_0 := NB316_317.out
 have hms40_0 := NB317_316.out
 refine skip_ (w1 := ?_) (by rfl) rfl ?_ ?_
 rotate_left
 {
 go_simp
 rfl
 }
 refine hK.out _ _ ⟨(by (iterate 3 (refine (cell_far (p := ⟨gb317, _, none⟩) (by first | exact Kd.own_blk (Kd.R_ne HL311_0.out BK317.out (by decide)) | ((first | rw [add_block] | (show (Addr.add _ _).block ≠ _; rw [add_block]) | dsimp only); exact Kd.own_blk (Kd.R_ne HL311_0.out BK317.out (by decide)))) _).trans ?_)); exact hHeld.1), (by (iterate 3 (refine (cell_far (p := ⟨gb317, _, none⟩) (by first | exact Nat.ne_of_lt (Nat.lt_of_lt_of_le (by have := World.block_lt_of_cell? _ _ hw313_0; first | rwa [add_block] at this | exact this) GW317.out) | ((first | rw [add_block] | (show (Addr.add _ _).block ≠ _; rw [add_block]) | dsimp only); exact Nat.ne_of_lt (Nat.lt_of_lt_of_le (by have := World.block_lt_of_cell? _ _ hw313_0; first | rwa [add_block] at this | exact this) GW317.out))) _).trans ?_)); exact hHeld.2.1), (by (iterate 3 (refine (cell_far (p := ⟨gb317, _, none⟩) (by first | exact Nat.ne_of_lt (Nat.lt_of_lt_of_le (by have := World.block_lt_of_cell? _ _ hw313_1; first | rwa [add_block] at this | exact this) GW317.out) | ((first | rw [add_block] | (show (Addr.add _ _).block ≠ _; rw [add_block]) | dsimp only); exact Nat.ne_of_lt (Nat.lt_of_lt_of_le (by have := World.block_lt_of_cell? _ _ hw313_1; first | rwa [add_block] at this | exact this) GW317.out))) _).trans ?_)); exact hHeld.2.2.1), (by (iterate 3 (refine (cell_far (p := ⟨gb317, _, none⟩) (by first | exact Nat.ne_of_lt (Nat.lt_of_lt_of_le (by have := World.block_lt_of_cell? _ _ hw313_2; first | rwa [add_block] at this | exact this) GW317.out) | ((first | rw [add_block] | (show (Addr.add _ _).block ≠ _; rw [add_block]) | dsimp only); exact Nat.ne_of_lt (Nat.lt_of_lt_of_le (by have := World.block_lt_of_cell? _ _ hw313_2; first | rwa [add_block] at this | exact this) GW317.out))) _).trans ?_)); exact hHeld.2.2.2.1), (by (iterate 3 (refine (cell_far (p := ⟨gb317, _, none⟩) (by first | exact Kd.own_blk (Kd.R_ne HL311_0.out BK317.out (by decide)) | ((first | rw [add_block] | (show (Addr.add _ _).block ≠ _; rw [add_block]) | dsimp only); exact Kd.own_blk (Kd.R_ne HL311_0.out BK317.out (by decide)))) _).trans ?_)); exact hHeld.2.2.2.2.1), (by (iterate 3 (refine (cell_far (p := ⟨gb317, _, none⟩) (by first | exact Nat.ne_of_lt (Nat.lt_of_lt_of_le (by have := World.block_lt_of_cell? _ _ hw315_0; first | rwa [add_block] at this | exact this) GW317.out) | ((first | rw [add_block] | (show (Addr.add _ _).block ≠ _; rw [add_block]) | dsimp only); exact Nat.ne_of_lt (Nat.lt_of_lt_of_le (by have := World.block_lt_of_cell? _ _ hw315_0; first | rwa [add_block] at this | exact this) GW317.out))) _).trans ?_)); exact hHeld.2.2.2.2.2.1), (by (iterate 3 (refine (cell_far (p := ⟨gb317, _, none⟩) (by first | exact Nat.ne_of_lt (Nat.lt_of_lt_of_le (by have := World.block_lt_of_cell? _ _ hw315_1; first | rwa [add_block] at this | exact this) GW317.out) | ((first | rw [add_block] | (show (Addr.add _ _).block ≠ _; rw [add_block]) | dsimp only); exact Nat.ne_of_lt (Nat.lt_of_lt_of_le (by have := World.block_lt_of_cell? _ _ hw315_1; first | rwa [add_block] at this | exact this) GW317.out))) _).trans ?_)); exact hHeld.2.2.2.2.2.2.1), (by (iterate 3 (refine (cell_far (p := ⟨gb317, _, none⟩) (by first | exact Nat.ne_of_lt (Nat.lt_of_lt_of_le (by have := World.block_lt_of_cell? _ _ hw315_2; first | rwa [add_block] at this | exact this) GW317.out) | ((first | rw [add_block] | (show (Addr.add _ _).block ≠ _; rw [add_block]) | dsimp only); exact Nat.ne_of_lt (Nat.lt_of_lt_of_le (by have := World.block_lt_of_cell? _ _ hw315_2; first | rwa [add_block] at this | exact this) GW317.out))) _).trans ?_)); exact hHeld.2.2.2.2.2.2.2)⟩ (fun hHeld => ?_)
 clear hK K
 refine done_ (done_of HT_.out (by kernel_rfl)) ?_
 try go_wp2
 have n0_ : Aside0 (Kd.R k36 36 ((((((w34.setCell ⟨gb316, 0, none⟩ (.string ((rd_T38 l1 (rd (rd_L5 t308 x35_2) 0)).f0))).setCell ⟨gb316, 1, none⟩ (.string ((rd_T38 l1 (rd (rd_L5 t308 x35_2) 0)).f1))).setCell ⟨gb316, 2, none⟩ (.int .i64 ((rd_T38 l1 (rd (rd_L5 t308 x35_2) 0)).f2))).setCell ⟨gb317, 0, none⟩ (.string ((rd_T36 l0 (rd (rd_L5 t308 x35_2) 1)).f0))).setCell ⟨gb317, 1, none⟩ (.int .i64 ((rd_T36 l0 (rd (rd_L5 t308 x35_2) 1)).f1))).setCell ⟨gb317, 2, none⟩ (.int .i64 ((rd_T36 l0 (rd (rd_L5 t308 x35_2) 1)).f2))) w.heap.size (fun k_ => k_ ≠ gb317) u8 x8_2) := ⟨by (with_reducible repeat (first | apply Kd.R_alloc | apply Kd.R_drewN | apply Kd.R_drew)); exact Kd.R_mono (Kd.R_far (p := ⟨gb317, 2, none⟩) (Kd.R_far (p := ⟨gb317, 1, none⟩) (Kd.R_far (p := ⟨gb317, 0, none⟩) (Kd.R_far (p := ⟨gb316, 2, none⟩) (Kd.R_far (p := ⟨gb316, 1, none⟩) (Kd.R_far (p := ⟨gb316, 0, none⟩) (Kd.R_mono (Kd.R_types HO_8.out BK316.out (by decide)) (fun k_ hk => (⟨hk, hk.1⟩ : _ ∧ k_ ≠ gb317))) (fun _ hk => hk.1.2) (.string ((rd_T38 l1 (rd (rd_L5 t308 x35_2) 0)).f0))) (fun _ hk => hk.1.2) (.string ((rd_T38 l1 (rd (rd_L5 t308 x35_2) 0)).f1))) (fun _ hk => hk.1.2) (.int .i64 ((rd_T38 l1 (rd (rd_L5 t308 x35_2) 0)).f2))) (fun _ hk => hk.2) (.string ((rd_T36 l0 (rd (rd_L5 t308 x35_2) 1)).f0))) (fun _ hk => hk.2) (.int .i64 ((rd_T36 l0 (rd (rd_L5 t308 x35_2) 1)).f1))) (fun _ hk => hk.2) (.int .i64 ((rd_T36 l0 (rd (rd_L5 t308 x35_2) 1)).f2))) (fun _ hk => hk.1.1)⟩
 have n1_ : Aside0 (Kd.S (Kd.slice 2 (Kd.int .i64)) 34 ((((((w34.setCell ⟨gb316, 0, none⟩ (.string ((rd_T38 l1 (rd (rd_L5 t308 x35_2) 0)).f0))).setCell ⟨gb316, 1, none⟩ (.string ((rd_T38 l1 (rd (rd_L5 t308 x35_2) 0)).f1))).setCell ⟨gb316, 2, none⟩ (.int .i64 ((rd_T38 l1 (rd (rd_L5 t308 x35_2) 0)).f2))).setCell ⟨gb317, 0, none⟩ (.string ((rd_T36 l0 (rd (rd_L5 t308 x35_2) 1)).f0))).setCell ⟨gb317, 1, none⟩ (.int .i64 ((rd_T36 l0 (rd (rd_L5 t308 x35_2) 1)).f1))).setCell ⟨gb317, 2, none⟩ (.int .i64 ((rd_T36 l0 (rd (rd_L5 t308 x35_2) 1)).f2))) w.heap.size (fun _ => True) (.slice (some ad311) t308.length co18) t308) := ⟨by (with_reducible repeat (first | apply Kd.S_alloc | apply Kd.S_drewN | apply Kd.S_drew)); exact Kd.S_mono (Kd.S_far (p := ⟨gb317, 2, none⟩) (Kd.S_far (p := ⟨gb317, 1, none⟩) (Kd.S_far (p := ⟨gb317, 0, none⟩) (Kd.S_far (p := ⟨gb316, 2, none⟩) (Kd.S_far (p := ⟨gb316, 1, none⟩) (Kd.S_far (p := ⟨gb316, 0, none⟩) (Kd.S_types (Kd.S_types HO_33.out BK316.out (by decide)) BK317.out (by decide)) (fun _ hk => hk.1.2) (.string ((rd_T38 l1 (rd (rd_L5 t308 x35_2) 0)).f0))) (fun _ hk => hk.1.2) (.string ((rd_T38 l1 (rd (rd_L5 t308 x35_2) 0)).f1))) (fun _ hk => hk.1.2) (.int .i64 ((rd_T38 l1 (rd (rd_L5 t308 x35_2) 0)).f2))) (fun _ hk => hk.2) (.string ((rd_T36 l0 (rd (rd_L5 t308 x35_2) 1)).f0))) (fun _ hk => hk.2) (.int .i64 ((rd_T36 l0 (rd (rd_L5 t308 x35_2) 1)).f1))) (fun _ hk => hk.2) (.int .i64 ((rd_T36 l0 (rd (rd_L5 t308 x35_2) 1)).f2))) (fun _ hk => trivial)⟩
 have n2_ : Aside0 (Kd.R (Kd.int .i64) 2 ((((((w34.setCell ⟨gb316, 0, none⟩ (.string ((rd_T38 l1 (rd (rd_L5 t308 x35_2) 0)).f0))).setCell ⟨gb316, 1, none⟩ (.string ((rd_T38 l1 (rd (rd_L5 t308 x35_2) 0)).f1))).setCell ⟨gb316, 2, none⟩ (.int .i64 ((rd_T38 l1 (rd (rd_L5 t308 x35_2) 0)).f2))).setCell ⟨gb317, 0, none⟩ (.string ((rd_T36 l0 (rd (rd_L5 t308 x35_2) 1)).f0))).setCell ⟨gb317, 1, none⟩ (.int .i64 ((rd_T36 l0 (rd (rd_L5 t308 x35_2) 1)).f1))).setCell ⟨gb317, 2, none⟩ (.int .i64 ((rd_T36 l0 (rd (rd_L5 t308 x35_2) 1)).f2))) w.heap.size (fun k_ => some k_ ≠ (.slice (some ad311) t308.length co18 : Value).ownBlock) (.slice (some ad312) (rd_L5 t308 x35_2).length c311_0) (rd_L5 t308 x35_2)) := ⟨by (with_reducible repeat (first | apply Kd.R_alloc | apply Kd.R_drewN | apply Kd.R_drew)); exact Kd.R_mono (Kd.R_far (p := ⟨gb317, 2, none⟩) (Kd.R_far (p := ⟨gb317, 1, none⟩) (Kd.R_far (p := ⟨gb317, 0, none⟩) (Kd.R_far (p := ⟨gb316, 2, none⟩) (Kd.R_far (p := ⟨gb316, 1, none⟩) (Kd.R_far (p := ⟨gb316, 0, none⟩) (Kd.R_types (Kd.R_types HL311_0.out BK316.out (by decide)) BK317.out (by decide)) (fun _ hk => hk.1.2) (.string ((rd_T38 l1 (rd (rd_L5 t308 x35_2) 0)).f0))) (fun _ hk => hk.1.2) (.string ((rd_T38 l1 (rd (rd_L5 t308 x35_2) 0)).f1))) (fun _ hk => hk.1.2) (.int .i64 ((rd_T38 l1 (rd (rd_L5 t308 x35_2) 0)).f2))) (fun _ hk => hk.2) (.string ((rd_T36 l0 (rd (rd_L5 t308 x35_2) 1)).f0))) (fun _ hk => hk.2) (.int .i64 ((rd_T36 l0 (rd (rd_L5 t308 x35_2) 1)).f1))) (fun _ hk => hk.2) (.int .i64 ((rd_T36 l0 (rd (rd_L5 t308 x35_2) 1)).f2))) (fun _ hk => hk.1.1)⟩
 have n3_ : Aside0 (((((((w34.setCell ⟨gb316, 0, none⟩ (.string ((rd_T38 l1 (rd (rd_L5 t308 x35_2) 0)).f0))).setCell ⟨gb316, 1, none⟩ (.string ((rd_T38 l1 (rd (rd_L5 t308 x35_2) 0)).f1))).setCell ⟨gb316, 2, none⟩ (.int .i64 ((rd_T38 l1 (rd (rd_L5 t308 x35_2) 0)).f2))).setCell ⟨gb317, 0, none⟩ (.string ((rd_T36 l0 (rd (rd_L5 t308 x35_2) 1)).f0))).setCell ⟨gb317, 1, none⟩ (.int .i64 ((rd_T36 l0 (rd (rd_L5 t308 x35_2) 1)).f1))).setCell ⟨gb317, 2, none⟩ (.int .i64 ((rd_T36 l0 (rd (rd_L5 t308 x35_2) 1)).f2))).heap[gb316]? = some (.cells #[.string ((rd_T38 l1 (rd (rd_L5 t308 x35_2) 0)).f0), .string ((rd_T38 l1 (rd (rd_L5 t308 x35_2) 0)).f1), .int .i64 ((rd_T38 l1 (rd (rd_L5 t308 x35_2) 0)).f2)] 38 (0, 0))) := ⟨by (with_reducible repeat (first | refine blk_drewN ?_ _ | refine blk_drew ?_ | refine blk_alloc ?_ _)); refine blk_far ?_ NB316_317.out _; (with_reducible repeat (first | refine blk_drewN ?_ _ | refine blk_drew ?_ | refine blk_alloc ?_ _)); refine blk_far ?_ NB316_317.out _; (with_reducible repeat (first | refine blk_drewN ?_ _ | refine blk_drew ?_ | refine blk_alloc ?_ _)); refine blk_far ?_ NB316_317.out _; (with_reducible repeat (first | refine blk_drewN ?_ _ | refine blk_drew ?_ | refine blk_alloc ?_ _)); refine blk_put (cs := #[.string ((rd_T38 l1 (rd (rd_L5 t308 x35_2) 0)).f0), .string ((rd_T38 l1 (rd (rd_L5 t308 x35_2) 0)).f1), .int .i64 0]) ?_ 2 _ rfl; (with_reducible repeat (first | refine blk_drewN ?_ _ | refine blk_drew ?_ | refine blk_alloc ?_ _)); refine blk_put (cs := #[.string ((rd_T38 l1 (rd (rd_L5 t308 x35_2) 0)).f0), .string (⟨#[]⟩ : ByteArray), .int .i64 0]) ?_ 1 _ rfl; (with_reducible repeat (first | refine blk_drewN ?_ _ | refine blk_drew ?_ | refine blk_alloc ?_ _)); refine blk_put (cs := #[.string (⟨#[]⟩ : ByteArray), .string (⟨#[]⟩ : ByteArray), .int .i64 0]) ?_ 0 _ rfl; (with_reducible repeat (first | refine blk_drewN ?_ _ | refine blk_drew ?_ | refine blk_alloc ?_ _)); exact BK316.out⟩
 have n4_ : Aside0 (((((((w34.setCell ⟨gb316, 0, none⟩ (.string ((rd_T38 l1 (rd (rd_L5 t308 x35_2) 0)).f0))).setCell ⟨gb316, 1, none⟩ (.string ((rd_T38 l1 (rd (rd_L5 t308 x35_2) 0)).f1))).setCell ⟨gb316, 2, none⟩ (.int .i64 ((rd_T38 l1 (rd (rd_L5 t308 x35_2) 0)).f2))).setCell ⟨gb317, 0, none⟩ (.string ((rd_T36 l0 (rd (rd_L5 t308 x35_2) 1)).f0))).setCell ⟨gb317, 1, none⟩ (.int .i64 ((rd_T36 l0 (rd (rd_L5 t308 x35_2) 1)).f1))).setCell ⟨gb317, 2, none⟩ (.int .i64 ((rd_T36 l0 (rd (rd_L5 t308 x35_2) 1)).f2))).heap[gb317]? = some (.cells #[.string ((rd_T36 l0 (rd (rd_L5 t308 x35_2) 1)).f0), .int .i64 ((rd_T36 l0 (rd (rd_L5 t308 x35_2) 1)).f1), .int .i64 ((rd_T36 l0 (rd (rd_L5 t308 x35_2) 1)).f2)] 36 (0, 0))) := ⟨by (with_reducible repeat (first | refine blk_drewN ?_ _ | refine blk_drew ?_ | refine blk_alloc ?_ _)); refine blk_put (cs := #[.string ((rd_T36 l0 (rd (rd_L5 t308 x35_2) 1)).f0), .int .i64 ((rd_T36 l0 (rd (rd_L5 t308 x35_2) 1)).f1), .int .i64 0]) ?_ 2 _ rfl; (with_reducible repeat (first | refine blk_drewN ?_ _ | refine blk_drew ?_ | refine blk_alloc ?_ _)); refine blk_put (cs := #[.string ((rd_T36 l0 (rd (rd_L5 t308 x35_2) 1)).f0), .int .i64 0, .int .i64 0]) ?_ 1 _ rfl; (with_reducible repeat (first | refine blk_drewN ?_ _ | refine blk_drew ?_ | refine blk_alloc ?_ _)); refine blk_put (cs := #[.string (⟨#[]⟩ : ByteArray), .int .i64 0, .int .i64 0]) ?_ 0 _ rfl; (with_reducible repeat (first | refine blk_drewN ?_ _ | refine blk_drew ?_ | refine blk_alloc ?_ _)); refine blk_far ?_ NB317_316.out _; (with_reducible repeat (first | refine blk_drewN ?_ _ | refine blk_drew ?_ | refine blk_alloc ?_ _)); refine blk_far ?_ NB317_316.out _; (with_reducible repeat (first | refine blk_drewN ?_ _ | refine blk_drew ?_ | refine blk_alloc ?_ _)); refine blk_far ?_ NB317_316.out _; (with_reducible repeat (first | refine blk_drewN ?_ _ | refine blk_drew ?_ | refine blk_alloc ?_ _)); exact BK317.out⟩
 have n5_ : Aside0 (Below w.heap.size w ((((((w34.setCell ⟨gb316, 0, none⟩ (.string ((rd_T38 l1 (rd (rd_L5 t308 x35_2) 0)).f0))).setCell ⟨gb316, 1, none⟩ (.string ((rd_T38 l1 (rd (rd_L5 t308 x35_2) 0)).f1))).setCell ⟨gb316, 2, none⟩ (.int .i64 ((rd_T38 l1 (rd (rd_L5 t308 x35_2) 0)).f2))).setCell ⟨gb317, 0, none⟩ (.string ((rd_T36 l0 (rd (rd_L5 t308 x35_2) 1)).f0))).setCell ⟨gb317, 1, none⟩ (.int .i64 ((rd_T36 l0 (rd (rd_L5 t308 x35_2) 1)).f1))).setCell ⟨gb317, 2, none⟩ (.int .i64 ((rd_T36 l0 (rd (rd_L5 t308 x35_2) 1)).f2)))) := ⟨by repeat (first | (with_reducible first | exact HB.out | apply below_alloc | apply pw_below_drewN | apply below_drew1 | refine below_set ?_ GE316.out | refine below_set ?_ GE317.out) | exact HB.out)⟩
 (try clear HO_8)
 (try clear HO_33)
 (try clear HL311_0)
 (try clear BK316)
 (try clear BK317)
 (try clear HB)
 generalize ((((((w34.setCell ⟨gb316, 0, none⟩ (.string ((rd_T38 l1 (rd (rd_L5 t308 x35_2) 0)).f0))).setCell ⟨gb316, 1, none⟩ (.string ((rd_T38 l1 (rd (rd_L5 t308 x35_2) 0)).f1))).setCell ⟨gb316, 2, none⟩ (.int .i64 ((rd_T38 l1 (rd (rd_L5 t308 x35_2) 0)).f2))).setCell ⟨gb317, 0, none⟩ (.string ((rd_T36 l0 (rd (rd_L5 t308 x35_2) 1)).f0))).setCell ⟨gb317, 1, none⟩ (.int .i64 ((rd_T36 l0 (rd (rd_L5 t308 x35_2) 1)).f1))).setCell ⟨gb317, 2, none⟩ (.int .i64 ((rd_T36 l0 (rd (rd_L5 t308 x35_2) 1)).f2))) = w41 at n0_ n1_ n2_ n3_ n4_ n5_ ⊢
 have HO_8 := n0_
 have HO_33 := n1_
 have HL311_0 := n2_
 have BK316 := n3_
 have BK317 := n4_
 have HB := n5_
 clear n0_ n1_ n2_ n3_ n4_ n5_
 have n0_ := Aside0.mk (Kd.R_drew HO_8.out)
 have n1_ := Aside0.mk (Kd.S_drew HO_33.out)
 have n2_ := Aside0.mk (Kd.R_drew HL311_0.out)
 have n3_ := Aside0.mk (blk_drew BK316.out)
 have n4_ := Aside0.mk (blk_drew BK317.out)
 have n5_ := Aside0.mk (below_drew1 HB.out)
 clear HO_8
 clear HO_33
 clear HL311_0
 clear BK316
 clear BK317
 clear HB
 have HO_8 := n0_
 have HO_33 := n1_
 have HL311_0 := n2_
 have BK316 := n3_
 have BK317 := n4_
 have HB := n5_
 clear n0_ n1_ n2_ n3_ n4_ n5_
 refine start_ (n := 11) (S := fun w' => w'.cell? ⟨gb316, 0, none⟩ = some (.string ((rd_T38 l1 (rd (rd_L5 t308 x35_2) 0)).f0)) ∧ w'.cell? ⟨gb316, 1, none⟩ = some (.string ((rd_T38 l1 (rd (rd_L5 t308 x35_2) 0)).f1)) ∧ w'.cell? ⟨gb316, 2, none⟩ = some (.int .i64 ((rd_T38 l1 (rd (rd_L5 t308 x35_2) 0)).f2)) ∧ w'.cell? ⟨gb317, 0, none⟩ = some (.string ((rd_T36 l0 (rd (rd_L5 t308 x35_2) 1)).f0)) ∧ w'.cell? ⟨gb317, 1, none⟩ = some (.int .i64 ((rd_T36 l0 (rd (rd_L5 t308 x35_2) 1)).f1)) ∧ w'.cell? ⟨gb317, 2, none⟩ = some (.int .i64 ((rd_T36 l0 (rd (rd_L5 t308 x35_2) 1)).f2))) (ds := []) #[false, false, false, false, false, false, false, false, false, false, false] (by kernel_rfl) rfl rfl ⟨(blk_cell BK316.out 0).trans rfl, (blk_cell BK316.out 1).trans rfl, (blk_cell BK316.out 2).trans rfl, (blk_cell BK317.out 0).trans rfl, (blk_cell BK317.out 1).trans rfl, (blk_cell BK317.out 2).trans rfl⟩ (fun hHeld => ?_); refine with_tabW impl_AddAnswers.tab10 impl_AddAnswers.bits10 (fun HT_ HW_ => ?_)
 generalize w41.drew = w42 at HO_8 HO_33 HL311_0 BK316 BK317 HB hHeld ⊢
 refine pure_ (i := 0) (N := some 51) (v := ?_) (a' := ?_) #[true, false, false, false, false, false, false, false, false, false, false] rfl rfl (any_of HT_.out (by kernel_rfl)) (fun _ _ _ h => h) (Or.inl ⟨by rfl, ?_⟩) ?_ ?_
 rotate_left
 {
 intro w'
 go_simp
 with_reducible rfl
 }
 rotate_left
 {
 simp only [Act.put, List.setIfInBounds_toArray, List.set_cons_zero, List.set_cons_succ, i64_w, i32_w]
 rfl
 }
 refine pure_ (i := 4) (N := some 55) (v := ?_) (a' := ?_) #[true, false, false, false, true, false, false, false, false, false, false] rfl rfl (any_of HT_.out (by kernel_rfl)) (fun _ _ _ h => h) (Or.inl ⟨by rfl, ?_⟩) ?_ ?_
 rotate_left
 {
 intro w'
 go_simp
 with_reducible rfl
 }
 rotate_left
 {
 simp only [Act.put, List.setIfInBounds_toArray, List.set_cons_zero, List.set_cons_succ, i64_w, i32_w]
 rfl
 }
 refine pure_ (i := 7) (N := some 58) (v := ?_) (a' := ?_) #[true, false, false, false, true, false, false, true, false, false, false] rfl rfl (any_of HT_.out (by kernel_rfl)) (fun _ _ _ h => h) (Or.inl ⟨by rfl, ?_⟩) ?_ ?_
 rotate_left
 {
 intro w'
 go_simp
 with_reducible rfl
 }
 rotate_left
 {
 simp only [Act.put, List.setIfInBounds_toArray, List.set_cons_zero, List.set_cons_succ, i64_w, i32_w]
 rfl
 }
 refine take_ (i := 1) (N := some 52) (v := ?_) (a' := ?_) #[true, true, false, false, true, false, false, true, false, false, false] rfl rfl (take_ofW HT_.out HW_.out (by kernel_rfl)) (fun _ _ _ h => h) (Or.inl ⟨by rfl, ?_⟩) hHeld ?_ ?_
 rotate_left
 {
 rintro w' ⟨s0, s1, s2, s3, s4, s5⟩
 go_simp
 with_reducible rfl
 }
 rotate_left
 {
 simp only [Act.put, List.setIfInBounds_toArray, List.set_cons_zero, List.set_cons_succ, i64_w, i32_w]
 rfl
 }
 refine take_ (i := 2) (N := some 53) (v := ?_) (a' := ?_) #[true, true, true, false, true, false, false, true, false, false, false] rfl rfl (take_ofW HT_.out HW_.out (by kernel_rfl)) (fun _ _ _ h => h) (Or.inl ⟨by rfl, ?_⟩) hHeld ?_ ?_
 rotate_left
 {
 rintro w' ⟨s0, s1, s2, s3, s4, s5⟩
 go_simp
 with_reducible rfl
 }
 rotate_left
 {
 simp only [Act.put, List.setIfInBounds_toArray, List.set_cons_zero, List.set_cons_succ, i64_w, i32_w]
 rfl
 }
 refine take_ (i := 5) (N := some 56) (v := ?_) (a' := ?_) #[true, true, true, false, true, true, false, true, false, false, false] rfl rfl (take_ofW HT_.out HW_.out (by kernel_rfl)) (fun _ _ _ h => h) (Or.inl ⟨by rfl, ?_⟩) hHeld ?_ ?_
 rotate_left
 {
 rintro w' ⟨s0, s1, s2, s3, s4, s5⟩
 go_simp
 with_reducible rfl
 }
 rotate_left
 {
 simp only [Act.put, List.setIfInBounds_toArray, List.set_cons_zero, List.set_cons_succ, i64_w, i32_w]
 rfl
 }
 refine join_ (σ := Nat) 1 #[true, true, true, true, true, true, true, true, true, true, false] (fun s_ => [(54, .int .i64 t318), (13, .pointer (some ⟨s_, 0, none⟩)), (57, .int .i64 (wrap64 (t318 + ((rd_T38 l1 (rd (rd_L5 t308 x35_2) 0)).f2)))), (59, .agg #[.string ((rd_T38 l1 (rd (rd_L5 t308 x35_2) 0)).f1), .int .i64 (wrap64 (t318 + ((rd_T38 l1 (rd (rd_L5 t308 x35_2) 0)).f2))), .int .i64 a2])]) (fun s_ w' => (w'.cell? ⟨gb316, 0, none⟩ = some (.string ((rd_T38 l1 (rd (rd_L5 t308 x35_2) 0)).f0)) ∧ w'.cell? ⟨gb316, 1, none⟩ = some (.string ((rd_T38 l1 (rd (rd_L5 t308 x35_2) 0)).f1)) ∧ w'.cell? ⟨gb316, 2, none⟩ = some (.int .i64 ((rd_T38 l1 (rd (rd_L5 t308 x35_2) 0)).f2)) ∧ w'.cell? ⟨gb317, 0, none⟩ = some (.string ((rd_T36 l0 (rd (rd_L5 t308 x35_2) 1)).f0)) ∧ w'.cell? ⟨gb317, 1, none⟩ = some (.int .i64 ((rd_T36 l0 (rd (rd_L5 t308 x35_2) 1)).f1)) ∧ w'.cell? ⟨gb317, 2, none⟩ = some (.int .i64 ((rd_T36 l0 (rd (rd_L5 t308 x35_2) 1)).f2))) ∧ (Kd.R (Kd.int .i64) 2 w' w.heap.size (fun k_ => some k_ ≠ (.slice (some ad311) t308.length co18 : Value).ownBlock) (.slice (some ad312) (rd_L5 t308 x35_2).length c311_0) (rd_L5 t308 x35_2)) ∧ (Kd.S (Kd.slice 2 (Kd.int .i64)) 34 w' w.heap.size (fun _ => True) (.slice (some ad311) t308.length co18) t308) ∧ (Kd.R k36 36 w' w.heap.size (fun k_ => k_ ≠ gb317 ∧ k_ ≠ s_) u8 x8_2) ∧ (w'.heap[gb316]? = some (.cells #[.string ((rd_T38 l1 (rd (rd_L5 t308 x35_2) 0)).f0), .string ((rd_T38 l1 (rd (rd_L5 t308 x35_2) 0)).f1), .int .i64 ((rd_T38 l1 (rd (rd_L5 t308 x35_2) 0)).f2)] 38 (0, 0))) ∧ (w'.heap[gb317]? = some (.cells #[.string ((rd_T36 l0 (rd (rd_L5 t308 x35_2) 1)).f0), .int .i64 ((rd_T36 l0 (rd (rd_L5 t308 x35_2) 1)).f1), .int .i64 ((rd_T36 l0 (rd (rd_L5 t308 x35_2) 1)).f2)] 36 (0, 0))) ∧ (w'.heap[s_]? = some (.cells #[.string (⟨#[]⟩ : ByteArray), .int .i64 0, .int .i64 0] 36 (0, 0))) ∧ (w.heap.size ≤ s_) ∧ (w.heap.size ≤ s_) ∧ (gb316 ≠ s_) ∧ (s_ ≠ gb316) ∧ (gb317 ≠ s_) ∧ (s_ ≠ gb317) ∧ (Below w.heap.size w w')) ?_ ?_
 rotate_left
 {
 intro hCont
 refine two_ (i := 3) (j := 9) (Ni := some 54) (Nj := some 13) #[true, true, true, true, true, true, false, true, false, false, false] #[true, true, true, false, true, true, false, true, false, true, false] rfl rfl rfl rfl (two_of HT_.out (by kernel_rfl)) (by decide) (by decide) (fun K hK => ?_) (fun K hK => ?_)
 {
 skip
 refine goes_ Try.func45 (by kernel_rfl) rfl #[.agg #[.string ((rd_T36 l0 (rd (rd_L5 t308 x35_2) 1)).f0), .int .i64 ((rd_T36 l0 (rd (rd_L5 t308 x35_2) 1)).f1), .int .i64 ((rd_T36 l0 (rd (rd_L5 t308 x35_2) 1)).f2)]] (by rfl) rfl rfl (by (try simp only [List.map_toArray, List.map_cons, List.map_nil]); first | done | rfl | (simp only [List.length_drop, List.length_take]; rfl)) ?_
 with_reducible refine (impl_Turn_end.calls ((rd_T36 l0 (rd (rd_L5 t308 x35_2) 1)).f0) ((rd_T36 l0 (rd (rd_L5 t308 x35_2) 1)).f1) ((rd_T36 l0 (rd (rd_L5 t308 x35_2) 1)).f2) t318 _ A28.out).mono ?_
 rintro e w43 ⟨rfl, hb⟩
 refine ⟨_, rfl, ?_⟩
 have n0_ := Aside0.mk (Kd.R_below (by (with_reducible repeat (first | apply Kd.R_alloc | apply Kd.R_drewN | apply Kd.R_drew)); exact HO_8.out) hb)
 have n1_ := Aside0.mk (Kd.S_below (by (with_reducible repeat (first | apply Kd.S_alloc | apply Kd.S_drewN | apply Kd.S_drew)); exact HO_33.out) hb)
 have n2_ := Aside0.mk (Kd.R_below (by (with_reducible repeat (first | apply Kd.R_alloc | apply Kd.R_drewN | apply Kd.R_drew)); exact HL311_0.out) hb)
 have n3_ := Aside0.mk (blk_below (g := gb316) (o := .cells #[.string ((rd_T38 l1 (rd (rd_L5 t308 x35_2) 0)).f0), .string ((rd_T38 l1 (rd (rd_L5 t308 x35_2) 0)).f1), .int .i64 ((rd_T38 l1 (rd (rd_L5 t308 x35_2) 0)).f2)] 38 (0, 0)) (by (with_reducible repeat (first | refine blk_drewN ?_ _ | refine blk_drew ?_ | refine blk_alloc ?_ _)); exact BK316.out) hb)
 have n4_ := Aside0.mk (blk_below (g := gb317) (o := .cells #[.string ((rd_T36 l0 (rd (rd_L5 t308 x35_2) 1)).f0), .int .i64 ((rd_T36 l0 (rd (rd_L5 t308 x35_2) 1)).f1), .int .i64 ((rd_T36 l0 (rd (rd_L5 t308 x35_2) 1)).f2)] 36 (0, 0)) (by (with_reducible repeat (first | refine blk_drewN ?_ _ | refine blk_drew ?_ | refine blk_alloc ?_ _)); exact BK317.out) hb)
 have n5_ := Aside0.mk (below_step (by repeat (first | (with_reducible first | exact HB.out | apply below_alloc | apply pw_below_drewN | apply below_drew1 | refine below_set ?_ GE316.out | refine below_set ?_ GE317.out) | exact HB.out)) hb)
 clear HO_8
 clear HO_33
 clear HL311_0
 clear BK316
 clear BK317
 clear HB
 have HO_8 := n0_
 have HO_33 := n1_
 have HL311_0 := n2_
 have BK316 := n3_
 have BK317 := n4_
 have HB := n5_
 clear n0_ n1_ n2_ n3_ n4_ n5_
 (try clear hb)
 (try clear hb2)
 (try clear hk)
 (try clear hi)
 refine hK.out _ _ ⟨(blk_cell BK316.out 0).trans rfl, (blk_cell BK316.out 1).trans rfl, (blk_cell BK316.out 2).trans rfl, (blk_cell BK317.out 0).trans rfl, (blk_cell BK317.out 1).trans rfl, (blk_cell BK317.out 2).trans rfl⟩ (fun hHeld => ?_)
 clear hK K
 refine norm_ (a' := ?_) ?_ ?_
 rotate_left
 {
 show Act.put _ (some 54) _ = _
 simp only [Act.put, List.setIfInBounds_toArray, List.set_cons_zero, List.set_cons_succ, i64_w, i32_w]
 rfl
 }
 refine pure_ (i := 6) (N := some 57) (v := ?_) (a' := ?_) #[true, true, true, true, true, true, true, true, false, false, false] rfl rfl (any_of HT_.out (by kernel_rfl)) (fun _ _ _ h => h) (Or.inl ⟨by rfl, ?_⟩) ?_ ?_
 rotate_left
 {
 intro w'
 go_simp
 with_reducible rfl
 }
 rotate_left
 {
 simp only [Act.put, List.setIfInBounds_toArray, List.set_cons_zero, List.set_cons_succ, i64_w, i32_w]
 rfl
 }
 refine pure_ (i := 8) (N := some 59) (v := ?_) (a' := ?_) #[true, true, true, true, true, true, true, true, true, false, false] rfl rfl (any_of HT_.out (by kernel_rfl)) (fun _ _ _ h => h) (Or.inl ⟨by rfl, ?_⟩) ?_ ?_
 rotate_left
 {
 intro w'
 go_simp
 with_reducible rfl
 }
 rotate_left
 {
 simp only [Act.put, List.setIfInBounds_toArray, List.set_cons_zero, List.set_cons_succ, i64_w, i32_w]
 rfl
 }
 refine one_ (i := 9) (N := some 13) #[true, true, true, true, true, true, true, true, true, true, false] rfl rfl (one_of HT_.out (by kernel_rfl)) (by decide) (fun K hK => ?_)
 refine box_step ?hg (N := 13) ?hd (cs := #[.string (⟨#[]⟩ : ByteArray), .int .i64 0, .int .i64 0]) (t := 36) ?hr ?_; (case hd => rfl); (case hg => rfl); (case hr => first | (go_simp; done) | (go_simp; rfl))
 intro gb319 hg w44 hbox hb
 have n0_ := Aside0.mk (Kd.R_below (Kd.R_elderB (by (with_reducible repeat (first | apply Kd.R_alloc | apply Kd.R_drewN | apply Kd.R_drew)); exact HO_8.out) gb319 (Nat.le_of_eq hg.symm)) hb)
 have n1_ := Aside0.mk (Kd.S_below (by (with_reducible repeat (first | apply Kd.S_alloc | apply Kd.S_drewN | apply Kd.S_drew)); exact HO_33.out) hb)
 have n2_ := Aside0.mk (Kd.R_below (by (with_reducible repeat (first | apply Kd.R_alloc | apply Kd.R_drewN | apply Kd.R_drew)); exact HL311_0.out) hb)
 have n3_ := Aside0.mk (blk_below (g := gb316) (o := .cells #[.string ((rd_T38 l1 (rd (rd_L5 t308 x35_2) 0)).f0), .string ((rd_T38 l1 (rd (rd_L5 t308 x35_2) 0)).f1), .int .i64 ((rd_T38 l1 (rd (rd_L5 t308 x35_2) 0)).f2)] 38 (0, 0)) (by (with_reducible repeat (first | refine blk_drewN ?_ _ | refine blk_drew ?_ | refine blk_alloc ?_ _)); exact BK316.out) hb)
 have n4_ := Aside0.mk (blk_below (g := gb317) (o := .cells #[.string ((rd_T36 l0 (rd (rd_L5 t308 x35_2) 1)).f0), .int .i64 ((rd_T36 l0 (rd (rd_L5 t308 x35_2) 1)).f1), .int .i64 ((rd_T36 l0 (rd (rd_L5 t308 x35_2) 1)).f2)] 36 (0, 0)) (by (with_reducible repeat (first | refine blk_drewN ?_ _ | refine blk_drew ?_ | refine blk_alloc ?_ _)); exact BK317.out) hb)
 have n5_ := Aside0.mk (below_step (by repeat (first | (with_reducible first | exact HB.out | apply below_alloc | apply pw_below_drewN | apply below_drew1 | refine below_set ?_ GE316.out | refine below_set ?_ GE317.out) | exact HB.out)) hb)
 have n6_ := Aside0.mk (hbox)
 have n7_ := Aside0.mk ((by rw [hg]; exact (below_size (by repeat (first | (with_reducible first | exact HB.out | apply below_alloc | apply pw_below_drewN | apply below_drew1 | refine below_set ?_ GE316.out | refine below_set ?_ GE317.out) | exact HB.out))) : w.heap.size ≤ gb319))
 have n8_ := Aside0.mk ((by rw [hg]; exact (below_size (by repeat (first | (with_reducible first | exact HB.out | apply below_alloc | apply pw_below_drewN | apply below_drew1 | refine below_set ?_ GE316.out | refine below_set ?_ GE317.out) | exact HB.out))) : w.heap.size ≤ gb319))
 have n9_ := Aside0.mk ((by rw [hg]; exact Nat.ne_of_lt (blk_lt (g := gb316) (o := .cells #[.string ((rd_T38 l1 (rd (rd_L5 t308 x35_2) 0)).f0), .string ((rd_T38 l1 (rd (rd_L5 t308 x35_2) 0)).f1), .int .i64 ((rd_T38 l1 (rd (rd_L5 t308 x35_2) 0)).f2)] 38 (0, 0)) (by (with_reducible repeat (first | refine blk_drewN ?_ _ | refine blk_drew ?_ | refine blk_alloc ?_ _)); exact BK316.out)) : gb316 ≠ gb319))
 have n10_ := Aside0.mk ((by rw [hg]; exact Nat.ne_of_gt (blk_lt (g := gb316) (o := .cells #[.string ((rd_T38 l1 (rd (rd_L5 t308 x35_2) 0)).f0), .string ((rd_T38 l1 (rd (rd_L5 t308 x35_2) 0)).f1), .int .i64 ((rd_T38 l1 (rd (rd_L5 t308 x35_2) 0)).f2)] 38 (0, 0)) (by (with_reducible repeat (first | refine blk_drewN ?_ _ | refine blk_drew ?_ | refine blk_alloc ?_ _)); exact BK316.out)) : gb319 ≠ gb316))
 have n11_ := Aside0.mk ((by rw [hg]; exact Nat.ne_of_lt (blk_lt (g := gb317) (o := .cells #[.string ((rd_T36 l0 (rd (rd_L5 t308 x35_2) 1)).f0), .int .i64 ((rd_T36 l0 (rd (rd_L5 t308 x35_2) 1)).f1), .int .i64 ((rd_T36 l0 (rd (rd_L5 t308 x35_2) 1)).f2)] 36 (0, 0)) (by (with_reducible repeat (first | refine blk_drewN ?_ _ | refine blk_drew ?_ | refine blk_alloc ?_ _)); exact BK317.out)) : gb317 ≠ gb319))
 have n12_ := Aside0.mk ((by rw [hg]; exact Nat.ne_of_gt (blk_lt (g := gb317) (o := .cells #[.string ((rd_T36 l0 (rd (rd_L5 t308 x35_2) 1)).f0), .int .i64 ((rd_T36 l0 (rd (rd_L5 t308 x35_2) 1)).f1), .int .i64 ((rd_T36 l0 (rd (rd_L5 t308 x35_2) 1)).f2)] 36 (0, 0)) (by (with_reducible repeat (first | refine blk_drewN ?_ _ | refine blk_drew ?_ | refine blk_alloc ?_ _)); exact BK317.out)) : gb319 ≠ gb317))
 clear HO_8
 clear HO_33
 clear HL311_0
 clear BK316
 clear BK317
 clear HB
 have HO_8 := n0_
 have HO_33 := n1_
 have HL311_0 := n2_
 have BK316 := n3_
 have BK317 := n4_
 have HB := n5_
 have BK319 := n6_
 have GW319 := n7_
 have GE319 := n8_
 have NB316_319 := n9_
 have NB319_316 := n10_
 have NB317_319 := n11_
 have NB319_317 := n12_
 clear n0_ n1_ n2_ n3_ n4_ n5_ n6_ n7_ n8_ n9_ n10_ n11_ n12_
 clear hb hbox hg
 refine hK.out _ _ ⟨(blk_cell BK316.out 0).trans rfl, (blk_cell BK316.out 1).trans rfl, (blk_cell BK316.out 2).trans rfl, (blk_cell BK317.out 0).trans rfl, (blk_cell BK317.out 1).trans rfl, (blk_cell BK317.out 2).trans rfl⟩ (fun hHeld => ?_)
 clear hK K
 refine norm_ (a' := ?_) ?_ ?_
 rotate_left
 {
 show Act.put _ (some 13) _ = _
 simp only [Act.put, List.setIfInBounds_toArray, List.set_cons_zero, List.set_cons_succ, i64_w, i32_w]
 rfl
 }
 exact norm_ (by simp only [putAll, Act.put, List.setIfInBounds_toArray, List.set_cons_zero, List.set_cons_succ]) (hCont (gb319) _ ⟨hHeld, (by (with_reducible repeat (first | apply Kd.R_alloc | apply Kd.R_drewN | apply Kd.R_drew)); exact HL311_0.out), (by (with_reducible repeat (first | apply Kd.S_alloc | apply Kd.S_drewN | apply Kd.S_drew)); exact HO_33.out), (by (with_reducible repeat (first | apply Kd.R_alloc | apply Kd.R_drewN | apply Kd.R_drew)); exact HO_8.out), (by (with_reducible repeat (first | refine blk_drewN ?_ _ | refine blk_drew ?_ | refine blk_alloc ?_ _)); exact BK316.out), (by (with_reducible repeat (first | refine blk_drewN ?_ _ | refine blk_drew ?_ | refine blk_alloc ?_ _)); exact BK317.out), (by (with_reducible repeat (first | refine blk_drewN ?_ _ | refine blk_drew ?_ | refine blk_alloc ?_ _)); exact BK319.out), GW319.out, GE319.out, NB316_319.out, NB319_316.out, NB317_319.out, NB319_317.out, (by repeat (first | (with_reducible first | exact HB.out | apply below_alloc | apply pw_below_drewN | apply below_drew1 | refine below_set ?_ GE316.out | refine below_set ?_ GE317.out | refine below_set ?_ GE319.out) | exact HB.out))⟩)
 }
 {
 skip
 refine box_step ?hg (N := 13) ?hd (cs := #[.string (⟨#[]⟩ : ByteArray), .int .i64 0, .int .i64 0]) (t := 36) ?hr ?_; (case hd => rfl); (case hg => rfl); (case hr => first | (go_simp; done) | (go_simp; rfl))
 intro gb319 hg w43 hbox hb
 have n0_ := Aside0.mk (Kd.R_below (Kd.R_elderB (by (with_reducible repeat (first | apply Kd.R_alloc | apply Kd.R_drewN | apply Kd.R_drew)); exact HO_8.out) gb319 (Nat.le_of_eq hg.symm)) hb)
 have n1_ := Aside0.mk (Kd.S_below (by (with_reducible repeat (first | apply Kd.S_alloc | apply Kd.S_drewN | apply Kd.S_drew)); exact HO_33.out) hb)
 have n2_ := Aside0.mk (Kd.R_below (by (with_reducible repeat (first | apply Kd.R_alloc | apply Kd.R_drewN | apply Kd.R_drew)); exact HL311_0.out) hb)
 have n3_ := Aside0.mk (blk_below (g := gb316) (o := .cells #[.string ((rd_T38 l1 (rd (rd_L5 t308 x35_2) 0)).f0), .string ((rd_T38 l1 (rd (rd_L5 t308 x35_2) 0)).f1), .int .i64 ((rd_T38 l1 (rd (rd_L5 t308 x35_2) 0)).f2)] 38 (0, 0)) (by (with_reducible repeat (first | refine blk_drewN ?_ _ | refine blk_drew ?_ | refine blk_alloc ?_ _)); exact BK316.out) hb)
 have n4_ := Aside0.mk (blk_below (g := gb317) (o := .cells #[.string ((rd_T36 l0 (rd (rd_L5 t308 x35_2) 1)).f0), .int .i64 ((rd_T36 l0 (rd (rd_L5 t308 x35_2) 1)).f1), .int .i64 ((rd_T36 l0 (rd (rd_L5 t308 x35_2) 1)).f2)] 36 (0, 0)) (by (with_reducible repeat (first | refine blk_drewN ?_ _ | refine blk_drew ?_ | refine blk_alloc ?_ _)); exact BK317.out) hb)
 have n5_ := Aside0.mk (below_step (by repeat (first | (with_reducible first | exact HB.out | apply below_alloc | apply pw_below_drewN | apply below_drew1 | refine below_set ?_ GE316.out | refine below_set ?_ GE317.out) | exact HB.out)) hb)
 have n6_ := Aside0.mk (hbox)
 have n7_ := Aside0.mk ((by rw [hg]; exact (below_size (by repeat (first | (with_reducible first | exact HB.out | apply below_alloc | apply pw_below_drewN | apply below_drew1 | refine below_set ?_ GE316.out | refine below_set ?_ GE317.out) | exact HB.out))) : w.heap.size ≤ gb319))
 have n8_ := Aside0.mk ((by rw [hg]; exact (below_size (by repeat (first | (with_reducible first | exact HB.out | apply below_alloc | apply pw_below_drewN | apply below_drew1 | refine below_set ?_ GE316.out | refine below_set ?_ GE317.out) | exact HB.out))) : w.heap.size ≤ gb319))
 have n9_ := Aside0.mk ((by rw [hg]; exact Nat.ne_of_lt (blk_lt (g := gb316) (o := .cells #[.string ((rd_T38 l1 (rd (rd_L5 t308 x35_2) 0)).f0), .string ((rd_T38 l1 (rd (rd_L5 t308 x35_2) 0)).f1), .int .i64 ((rd_T38 l1 (rd (rd_L5 t308 x35_2) 0)).f2)] 38 (0, 0)) (by (with_reducible repeat (first | refine blk_drewN ?_ _ | refine blk_drew ?_ | refine blk_alloc ?_ _)); exact BK316.out)) : gb316 ≠ gb319))
 have n10_ := Aside0.mk ((by rw [hg]; exact Nat.ne_of_gt (blk_lt (g := gb316) (o := .cells #[.string ((rd_T38 l1 (rd (rd_L5 t308 x35_2) 0)).f0), .string ((rd_T38 l1 (rd (rd_L5 t308 x35_2) 0)).f1), .int .i64 ((rd_T38 l1 (rd (rd_L5 t308 x35_2) 0)).f2)] 38 (0, 0)) (by (with_reducible repeat (first | refine blk_drewN ?_ _ | refine blk_drew ?_ | refine blk_alloc ?_ _)); exact BK316.out)) : gb319 ≠ gb316))
 have n11_ := Aside0.mk ((by rw [hg]; exact Nat.ne_of_lt (blk_lt (g := gb317) (o := .cells #[.string ((rd_T36 l0 (rd (rd_L5 t308 x35_2) 1)).f0), .int .i64 ((rd_T36 l0 (rd (rd_L5 t308 x35_2) 1)).f1), .int .i64 ((rd_T36 l0 (rd (rd_L5 t308 x35_2) 1)).f2)] 36 (0, 0)) (by (with_reducible repeat (first | refine blk_drewN ?_ _ | refine blk_drew ?_ | refine blk_alloc ?_ _)); exact BK317.out)) : gb317 ≠ gb319))
 have n12_ := Aside0.mk ((by rw [hg]; exact Nat.ne_of_gt (blk_lt (g := gb317) (o := .cells #[.string ((rd_T36 l0 (rd (rd_L5 t308 x35_2) 1)).f0), .int .i64 ((rd_T36 l0 (rd (rd_L5 t308 x35_2) 1)).f1), .int .i64 ((rd_T36 l0 (rd (rd_L5 t308 x35_2) 1)).f2)] 36 (0, 0)) (by (with_reducible repeat (first | refine blk_drewN ?_ _ | refine blk_drew ?_ | refine blk_alloc ?_ _)); exact BK317.out)) : gb319 ≠ gb317))
 clear HO_8
 clear HO_33
 clear HL311_0
 clear BK316
 clear BK317
 clear HB
 have HO_8 := n0_
 have HO_33 := n1_
 have HL311_0 := n2_
 have BK316 := n3_
 have BK317 := n4_
 have HB := n5_
 have BK319 := n6_
 have GW319 := n7_
 have GE319 := n8_
 have NB316_319 := n9_
 have NB319_316 := n10_
 have NB317_319 := n11_
 have NB319_317 := n12_
 clear n0_ n1_ n2_ n3_ n4_ n5_ n6_ n7_ n8_ n9_ n10_ n11_ n12_
 clear hb hbox hg
 refine hK.out _ _ ⟨(blk_cell BK316.out 0).trans rfl, (blk_cell BK316.out 1).trans rfl, (blk_cell BK316.out 2).trans rfl, (blk_cell BK317.out 0).trans rfl, (blk_cell BK317.out 1).trans rfl, (blk_cell BK317.out 2).trans rfl⟩ (fun hHeld => ?_)
 clear hK K
 refine norm_ (a' := ?_) ?_ ?_
 rotate_left
 {
 show Act.put _ (some 13) _ = _
 simp only [Act.put, List.setIfInBounds_toArray, List.set_cons_zero, List.set_cons_succ, i64_w, i32_w]
 rfl
 }
 refine one_ (i := 3) (N := some 54) #[true, true, true, true, true, true, false, true, false, true, false] rfl rfl (one_of HT_.out (by kernel_rfl)) (by decide) (fun K hK => ?_)
 refine goes_ Try.func45 (by kernel_rfl) rfl #[.agg #[.string ((rd_T36 l0 (rd (rd_L5 t308 x35_2) 1)).f0), .int .i64 ((rd_T36 l0 (rd (rd_L5 t308 x35_2) 1)).f1), .int .i64 ((rd_T36 l0 (rd (rd_L5 t308 x35_2) 1)).f2)]] (by rfl) rfl rfl (by (try simp only [List.map_toArray, List.map_cons, List.map_nil]); first | done | rfl | (simp only [List.length_drop, List.length_take]; rfl)) ?_
 with_reducible refine (impl_Turn_end.calls ((rd_T36 l0 (rd (rd_L5 t308 x35_2) 1)).f0) ((rd_T36 l0 (rd (rd_L5 t308 x35_2) 1)).f1) ((rd_T36 l0 (rd (rd_L5 t308 x35_2) 1)).f2) t318 _ A28.out).mono ?_
 rintro e w44 ⟨rfl, hb⟩
 refine ⟨_, rfl, ?_⟩
 have n0_ := Aside0.mk (Kd.R_below (by (with_reducible repeat (first | apply Kd.R_alloc | apply Kd.R_drewN | apply Kd.R_drew)); exact HO_8.out) hb)
 have n1_ := Aside0.mk (Kd.S_below (by (with_reducible repeat (first | apply Kd.S_alloc | apply Kd.S_drewN | apply Kd.S_drew)); exact HO_33.out) hb)
 have n2_ := Aside0.mk (Kd.R_below (by (with_reducible repeat (first | apply Kd.R_alloc | apply Kd.R_drewN | apply Kd.R_drew)); exact HL311_0.out) hb)
 have n3_ := Aside0.mk (blk_below (g := gb316) (o := .cells #[.string ((rd_T38 l1 (rd (rd_L5 t308 x35_2) 0)).f0), .string ((rd_T38 l1 (rd (rd_L5 t308 x35_2) 0)).f1), .int .i64 ((rd_T38 l1 (rd (rd_L5 t308 x35_2) 0)).f2)] 38 (0, 0)) (by (with_reducible repeat (first | refine blk_drewN ?_ _ | refine blk_drew ?_ | refine blk_alloc ?_ _)); exact BK316.out) hb)
 have n4_ := Aside0.mk (blk_below (g := gb317) (o := .cells #[.string ((rd_T36 l0 (rd (rd_L5 t308 x35_2) 1)).f0), .int .i64 ((rd_T36 l0 (rd (rd_L5 t308 x35_2) 1)).f1), .int .i64 ((rd_T36 l0 (rd (rd_L5 t308 x35_2) 1)).f2)] 36 (0, 0)) (by (with_reducible repeat (first | refine blk_drewN ?_ _ | refine blk_drew ?_ | refine blk_alloc ?_ _)); exact BK317.out) hb)
 have n5_ := Aside0.mk (blk_below (g := gb319) (o := .cells #[.string (⟨#[]⟩ : ByteArray), .int .i64 0, .int .i64 0] 36 (0, 0)) (by (with_reducible repeat (first | refine blk_drewN ?_ _ | refine blk_drew ?_ | refine blk_alloc ?_ _)); exact BK319.out) hb)
 have n6_ := Aside0.mk (below_step (by repeat (first | (with_reducible first | exact HB.out | apply below_alloc | apply pw_below_drewN | apply below_drew1 | refine below_set ?_ GE316.out | refine below_set ?_ GE317.out | refine below_set ?_ GE319.out) | exact HB.out)) hb)
 clear HO_8
 clear HO_33
 clear HL311_0
 clear BK316
 clear BK317
 clear BK319
 clear HB
 have HO_8 := n0_
 have HO_33 := n1_
 have HL311_0 := n2_
 have BK316 := n3_
 have BK317 := n4_
 have BK319 := n5_
 have HB := n6_
 clear n0_ n1_ n2_ n3_ n4_ n5_ n6_
 (try clear hb)
 (try clear hb2)
 (try clear hk)
 (try clear hi)
 refine hK.out _ _ ⟨(blk_cell BK316.out 0).trans rfl, (blk_cell BK316.out 1).trans rfl, (blk_cell BK316.out 2).trans rfl, (blk_cell BK317.out 0).trans rfl, (blk_cell BK317.out 1).trans rfl, (blk_cell BK317.out 2).trans rfl⟩ (fun hHeld => ?_)
 clear hK K
 refine norm_ (a' := ?_) ?_ ?_
 rotate_left
 {
 show Act.put _ (some 54) _ = _
 simp only [Act.put, List.setIfInBounds_toArray, List.set_cons_zero, List.set_cons_succ, i64_w, i32_w]
 rfl
 }
 refine pure_ (i := 6) (N := some 57) (v := ?_) (a' := ?_) #[true, true, true, true, true, true, true, true, false, true, false] rfl rfl (any_of HT_.out (by kernel_rfl)) (fun _ _ _ h => h) (Or.inl ⟨by rfl, ?_⟩) ?_ ?_
 rotate_left
 {
 intro w'
 go_simp
 with_reducible rfl
 }
 rotate_left
 {
 simp only [Act.put, List.setIfInBounds_toArray, List.set_cons_zero, List.set_cons_succ, i64_w, i32_w]
 rfl
 }
 refine pure_ (i := 8) (N := some 59) (v := ?_) (a' := ?_) #[true, true, true, true, true, true, true, true, true, true, false] rfl rfl (any_of HT_.out (by kernel_rfl)) (fun _ _ _ h => h) (Or.inl ⟨by rfl, ?_⟩) ?_ ?_
 rotate_left
 {
 intro w'
 go_simp
 with_reducible rfl
 }
 rotate_left
 {
 simp only [Act.put, List.setIfInBounds_toArray, List.set_cons_zero, List.set_cons_succ, i64_w, i32_w]
 rfl
 }
 exact norm_ (by simp only [putAll, Act.put, List.setIfInBounds_toArray, List.set_cons_zero, List.set_cons_succ]) (hCont (gb319) _ ⟨hHeld, (by (with_reducible repeat (first | apply Kd.R_alloc | apply Kd.R_drewN | apply Kd.R_drew)); exact HL311_0.out), (by (with_reducible repeat (first | apply Kd.S_alloc | apply Kd.S_drewN | apply Kd.S_drew)); exact HO_33.out), (by (with_reducible repeat (first | apply Kd.R_alloc | apply Kd.R_drewN | apply Kd.R_drew)); exact HO_8.out), (by (with_reducible repeat (first | refine blk_drewN ?_ _ | refine blk_drew ?_ | refine blk_alloc ?_ _)); exact BK316.out), (by (with_reducible repeat (first | refine blk_drewN ?_ _ | refine blk_drew ?_ | refine blk_alloc ?_ _)); exact BK317.out), (by (with_reducible repeat (first | refine blk_drewN ?_ _ | refine blk_drew ?_ | refine blk_alloc ?_ _)); exact BK319.out), GW319.out, GE319.out, NB316_319.out, NB319_316.out, NB317_319.out, NB319_317.out, (by repeat (first | (with_reducible first | exact HB.out | apply below_alloc | apply pw_below_drewN | apply below_drew1 | refine below_set ?_ GE316.out | refine below_set ?_ GE317.out | refine below_set ?_ GE319.out) | exact HB.out))⟩)
 }
 }
 rintro gb319 w45 ⟨hS_, h0_, h1_, h2_, h3_, h4_, h5_, h6_, h7_, h8_, h9_, h10_, h11_, h12_⟩
 have n0_ : Aside0 (Kd.R (Kd.int .i64) 2 w45 w.heap.size (fun k_ => some k_ ≠ (.slice (some ad311) t308.length co18 : Value).ownBlock) (.slice (some ad312) (rd_L5 t308 x35_2).length c311_0) (rd_L5 t308 x35_2)) := ⟨h0_⟩
 have n1_ : Aside0 (Kd.S (Kd.slice 2 (Kd.int .i64)) 34 w45 w.heap.size (fun _ => True) (.slice (some ad311) t308.length co18) t308) := ⟨h1_⟩
 have n2_ : Aside0 (Kd.R k36 36 w45 w.heap.size (fun k_ => k_ ≠ gb317 ∧ k_ ≠ gb319) u8 x8_2) := ⟨h2_⟩
 have n3_ : Aside0 (w45.heap[gb316]? = some (.cells #[.string ((rd_T38 l1 (rd (rd_L5 t308 x35_2) 0)).f0), .string ((rd_T38 l1 (rd (rd_L5 t308 x35_2) 0)).f1), .int .i64 ((rd_T38 l1 (rd (rd_L5 t308 x35_2) 0)).f2)] 38 (0, 0))) := ⟨h3_⟩
 have n4_ : Aside0 (w45.heap[gb317]? = some (.cells #[.string ((rd_T36 l0 (rd (rd_L5 t308 x35_2) 1)).f0), .int .i64 ((rd_T36 l0 (rd (rd_L5 t308 x35_2) 1)).f1), .int .i64 ((rd_T36 l0 (rd (rd_L5 t308 x35_2) 1)).f2)] 36 (0, 0))) := ⟨h4_⟩
 have n5_ : Aside0 (w45.heap[gb319]? = some (.cells #[.string (⟨#[]⟩ : ByteArray), .int .i64 0, .int .i64 0] 36 (0, 0))) := ⟨h5_⟩
 have n6_ : Aside0 (w.heap.size ≤ gb319) := ⟨h6_⟩
 have n7_ : Aside0 (w.heap.size ≤ gb319) := ⟨h7_⟩
 have n8_ : Aside0 (gb316 ≠ gb319) := ⟨h8_⟩
 have n9_ : Aside0 (gb319 ≠ gb316) := ⟨h9_⟩
 have n10_ : Aside0 (gb317 ≠ gb319) := ⟨h10_⟩
 have n11_ : Aside0 (gb319 ≠ gb317) := ⟨h11_⟩
 have n12_ : Aside0 (Below w.heap.size w w45) := ⟨h12_⟩
 clear HO_8
 clear HO_33
 clear HL311_0
 clear BK316
 clear BK317
 clear HB
 clear h0_ h1_ h2_ h3_ h4_ h5_ h6_ h7_ h8_ h9_ h10_ h11_ h12_
 have HL311_0 := n0_
 have HO_33 := n1_
 have HO_8 := n2_
 have BK316 := n3_
 have BK317 := n4_
 have BK319 := n5_
 have GW319 := n6_
 have GE319 := n7_
 have NB316_319 := n8_
 have NB319_316 := n9_
 have NB317_319 := n10_
 have NB319_317 := n11_
 have HB := n12_
 clear n0_ n1_ n2_ n3_ n4_ n5_ n6_ n7_ n8_ n9_ n10_ n11_ n12_
 have hHeld : w45.cell? ⟨gb316, 0, none⟩ = some (.string ((rd_T38 l1 (rd (rd_L5 t308 x35_2) 0)).f0)) ∧ w45.cell? ⟨gb316, 1, none⟩ = some (.string ((rd_T38 l1 (rd (rd_L5 t308 x35_2) 0)).f1)) ∧ w45.cell? ⟨gb316, 2, none⟩ = some (.int .i64 ((rd_T38 l1 (rd (rd_L5 t308 x35_2) 0)).f2)) ∧ w45.cell? ⟨gb317, 0, none⟩ = some (.string ((rd_T36 l0 (rd (rd_L5 t308 x35_2) 1)).f0)) ∧ w45.cell? ⟨gb317, 1, none⟩ = some (.int .i64 ((rd_T36 l0 (rd (rd_L5 t308 x35_2) 1)).f1)) ∧ w45.cell? ⟨gb317, 2, none⟩ = some (.int .i64 ((rd_T36 l0 (rd (rd_L5 t308 x35_2) 1)).f2)) := hS_
 refine norm_ (a' := ?_) ?_ ?_
 rotate_left
 {
 simp only [putAll, Act.put, List.setIfInBounds_toArray, List.set_cons_zero, List.set_cons_succ]
 rfl
 }
 refine one_ (i := 10) (N := none) #[true, true, true, true, true, true, true, true, true, true, true] rfl rfl (one_of HT_.out (by kernel_rfl)) (by decide) (fun K hK => ?_)
 have hs46 : w45.cell? ⟨gb319, 0, none⟩ = some (.string (⟨#[]⟩ : ByteArray)) := (blk_cell BK319.out 0).trans rfl
 have hfs46 := blk_frozen BK319.out 0
 have hns46_0 := NB316_319.out
 have hns46_1 := NB317_319.out
 have hms46_0 := NB319_316.out
 have hms46_1 := NB319_317.out
 have hs47 : w45.cell? ⟨gb319, 1, none⟩ = some (.int .i64 0) := (blk_cell BK319.out 1).trans rfl
 have hfs47 := blk_frozen BK319.out 1
 have hns47_0 := NB316_319.out
 have hns47_1 := NB317_319.out
 have hms47_0 := NB319_316.out
 have hms47_1 := NB319_317.out
 have hs48 : w45.cell? ⟨gb319, 2, none⟩ = some (.int .i64 0) := (blk_cell BK319.out 2).trans rfl
 have hfs48 := blk_frozen BK319.out 2
 have hns48_0 := NB316_319.out
 have hns48_1 := NB317_319.out
 have hms48_0 := NB319_316.out
 have hms48_1 := NB319_317.out
 refine skip_ (w1 := ?_) (by rfl) rfl ?_ ?_
 rotate_left
 {
 go_simp
 rfl
 }
 refine hK.out _ _ ⟨(by (iterate 3 (refine (cell_far (p := ⟨gb319, _, none⟩) NB316_319.out _).trans ?_)); exact hHeld.1), (by (iterate 3 (refine (cell_far (p := ⟨gb319, _, none⟩) NB316_319.out _).trans ?_)); exact hHeld.2.1), (by (iterate 3 (refine (cell_far (p := ⟨gb319, _, none⟩) NB316_319.out _).trans ?_)); exact hHeld.2.2.1), (by (iterate 3 (refine (cell_far (p := ⟨gb319, _, none⟩) NB317_319.out _).trans ?_)); exact hHeld.2.2.2.1), (by (iterate 3 (refine (cell_far (p := ⟨gb319, _, none⟩) NB317_319.out _).trans ?_)); exact hHeld.2.2.2.2.1), (by (iterate 3 (refine (cell_far (p := ⟨gb319, _, none⟩) NB317_319.out _).trans ?_)); exact hHeld.2.2.2.2.2)⟩ (fun hHeld => ?_)
 clear hK K
 refine done_ (done_of HT_.out (by kernel_rfl)) ?_
 have hnb49 := NB319_316.out
 have hnc49 := NB316_319.out
 have hnb50 := NB319_317.out
 have hnc50 := NB317_319.out
 have hcz51_0 : w45.cell? ⟨gb319, 0, none⟩ = some (.string (⟨#[]⟩ : ByteArray)) := (blk_cell BK319.out 0).trans rfl
 have hcz51_1 : w45.cell? ⟨gb319, 1, none⟩ = some (.int .i64 0) := (blk_cell BK319.out 1).trans rfl
 have hcz51_2 : w45.cell? ⟨gb319, 2, none⟩ = some (.int .i64 0) := (blk_cell BK319.out 2).trans rfl
 have hfz51_0 := blk_frozen BK319.out 0
 have hfz51_1 := blk_frozen BK319.out 1
 have hfz51_2 := blk_frozen BK319.out 2
 obtain ⟨Ao52, co52, eo52⟩ := Kd.R_slice HO_8.out
 subst eo52
 try go_wp2_with (first | ((with_reducible refine gate_callee (f := 46) rfl ?_); refine goesL_ (some 65) rfl rfl Try.func46 (by kernel_rfl) rfl #[.slice Ao52 x8_2.length co52, .string ((rd_T38 l1 (rd (rd_L5 t308 x35_2) 0)).f1), .int .i64 (wrap64 (t318 + ((rd_T38 l1 (rd (rd_L5 t308 x35_2) 0)).f2)))] rfl (by (try simp only [List.map_toArray, List.map_cons, List.map_nil]); first | done | rfl | (simp only [List.length_drop, List.length_take]; rfl)) ?_; (with_reducible refine (impl_begins.calls k2 _ _ x8_2 ((rd_T38 l1 (rd (rd_L5 t308 x35_2) 0)).f1) (wrap64 (t318 + ((rd_T38 l1 (rd (rd_L5 t308 x35_2) 0)).f2))) true _ ?side1 ?side2 A29.out).mono ?_); (case side1 => refine (Kd.R_reads' (e := 36) (base := w.heap.size) (ok := fun k_ => (k_ ≠ gb317 ∧ k_ ≠ gb319)) (n := x8_2.length) (c := co52) ?_).2.2; exact (by (with_reducible repeat (first | apply Kd.R_alloc | apply Kd.R_drewN | apply Kd.R_drew)); exact (Kd.R_mono (Kd.R_far (p := ⟨gb319, 2, none⟩) (Kd.R_far (p := ⟨gb319, 1, none⟩) (Kd.R_far (p := ⟨gb319, 0, none⟩) (Kd.R_mono HO_8.out (fun k_ hk => (⟨hk, hk.2⟩ : _ ∧ k_ ≠ gb319))) (fun _ hk => hk.2) (.string ((rd_T38 l1 (rd (rd_L5 t308 x35_2) 0)).f1))) (fun _ hk => hk.2) (.int .i64 (wrap64 (t318 + ((rd_T38 l1 (rd (rd_L5 t308 x35_2) 0)).f2))))) (fun _ hk => hk.2) (.int .i64 a2)) (fun _ h_ => h_.1)))); (case side2 => exact (Kd.R_reads' HO_8.out).2.1); rintro e w53 ⟨rfl, hb⟩; refine ⟨_, rfl, ?_⟩; have n0_ := Aside0.mk (Kd.R_below (by (with_reducible repeat (first | apply Kd.R_alloc | apply Kd.R_drewN | apply Kd.R_drew)); exact (Kd.R_mono (Kd.R_far (p := ⟨gb319, 2, none⟩) (Kd.R_far (p := ⟨gb319, 1, none⟩) (Kd.R_far (p := ⟨gb319, 0, none⟩) (Kd.R_mono HO_8.out (fun k_ hk => (⟨hk, hk.2⟩ : _ ∧ k_ ≠ gb319))) (fun _ hk => hk.2) (.string ((rd_T38 l1 (rd (rd_L5 t308 x35_2) 0)).f1))) (fun _ hk => hk.2) (.int .i64 (wrap64 (t318 + ((rd_T38 l1 (rd (rd_L5 t308 x35_2) 0)).f2))))) (fun _ hk => hk.2) (.int .i64 a2)) (fun _ h_ => h_.1))) hb); have n1_ := Aside0.mk (Kd.S_below (by (with_reducible repeat (first | apply Kd.S_alloc | apply Kd.S_drewN | apply Kd.S_drew)); exact (Kd.S_mono (Kd.S_far (p := ⟨gb319, 2, none⟩) (Kd.S_far (p := ⟨gb319, 1, none⟩) (Kd.S_far (p := ⟨gb319, 0, none⟩) (Kd.S_types HO_33.out BK319.out (by decide)) (fun _ hk => hk.2) (.string ((rd_T38 l1 (rd (rd_L5 t308 x35_2) 0)).f1))) (fun _ hk => hk.2) (.int .i64 (wrap64 (t318 + ((rd_T38 l1 (rd (rd_L5 t308 x35_2) 0)).f2))))) (fun _ hk => hk.2) (.int .i64 a2)) (fun _ h_ => h_.1))) hb); have n2_ := Aside0.mk (Kd.R_below (by (with_reducible repeat (first | apply Kd.R_alloc | apply Kd.R_drewN | apply Kd.R_drew)); exact (Kd.R_mono (Kd.R_far (p := ⟨gb319, 2, none⟩) (Kd.R_far (p := ⟨gb319, 1, none⟩) (Kd.R_far (p := ⟨gb319, 0, none⟩) (Kd.R_types HL311_0.out BK319.out (by decide)) (fun _ hk => hk.2) (.string ((rd_T38 l1 (rd (rd_L5 t308 x35_2) 0)).f1))) (fun _ hk => hk.2) (.int .i64 (wrap64 (t318 + ((rd_T38 l1 (rd (rd_L5 t308 x35_2) 0)).f2))))) (fun _ hk => hk.2) (.int .i64 a2)) (fun _ h_ => h_.1))) hb); have n3_ := Aside0.mk (blk_below (g := gb316) (o := .cells #[.string ((rd_T38 l1 (rd (rd_L5 t308 x35_2) 0)).f0), .string ((rd_T38 l1 (rd (rd_L5 t308 x35_2) 0)).f1), .int .i64 ((rd_T38 l1 (rd (rd_L5 t308 x35_2) 0)).f2)] 38 (0, 0)) (by (with_reducible repeat (first | refine blk_drewN ?_ _ | refine blk_drew ?_ | refine blk_alloc ?_ _)); refine blk_far ?_ NB316_319.out _; (with_reducible repeat (first | refine blk_drewN ?_ _ | refine blk_drew ?_ | refine blk_alloc ?_ _)); refine blk_far ?_ NB316_319.out _; (with_reducible repeat (first | refine blk_drewN ?_ _ | refine blk_drew ?_ | refine blk_alloc ?_ _)); refine blk_far ?_ NB316_319.out _; (with_reducible repeat (first | refine blk_drewN ?_ _ | refine blk_drew ?_ | refine blk_alloc ?_ _)); exact BK316.out) hb); have n4_ := Aside0.mk (blk_below (g := gb317) (o := .cells #[.string ((rd_T36 l0 (rd (rd_L5 t308 x35_2) 1)).f0), .int .i64 ((rd_T36 l0 (rd (rd_L5 t308 x35_2) 1)).f1), .int .i64 ((rd_T36 l0 (rd (rd_L5 t308 x35_2) 1)).f2)] 36 (0, 0)) (by (with_reducible repeat (first | refine blk_drewN ?_ _ | refine blk_drew ?_ | refine blk_alloc ?_ _)); refine blk_far ?_ NB317_319.out _; (with_reducible repeat (first | refine blk_drewN ?_ _ | refine blk_drew ?_ | refine blk_alloc ?_ _)); refine blk_far ?_ NB317_319.out _; (with_reducible repeat (first | refine blk_drewN ?_ _ | refine blk_drew ?_ | refine blk_alloc ?_ _)); refine blk_far ?_ NB317_319.out _; (with_reducible repeat (first | refine blk_drewN ?_ _ | refine blk_drew ?_ | refine blk_alloc ?_ _)); exact BK317.out) hb); have n5_ := Aside0.mk (blk_below (g := gb319) (o := .cells #[.string ((rd_T38 l1 (rd (rd_L5 t308 x35_2) 0)).f1), .int .i64 (wrap64 (t318 + ((rd_T38 l1 (rd (rd_L5 t308 x35_2) 0)).f2))), .int .i64 a2] 36 (0, 0)) (by (with_reducible repeat (first | refine blk_drewN ?_ _ | refine blk_drew ?_ | refine blk_alloc ?_ _)); refine blk_put (cs := #[.string ((rd_T38 l1 (rd (rd_L5 t308 x35_2) 0)).f1), .int .i64 (wrap64 (t318 + ((rd_T38 l1 (rd (rd_L5 t308 x35_2) 0)).f2))), .int .i64 0]) ?_ 2 _ rfl; (with_reducible repeat (first | refine blk_drewN ?_ _ | refine blk_drew ?_ | refine blk_alloc ?_ _)); refine blk_put (cs := #[.string ((rd_T38 l1 (rd (rd_L5 t308 x35_2) 0)).f1), .int .i64 0, .int .i64 0]) ?_ 1 _ rfl; (with_reducible repeat (first | refine blk_drewN ?_ _ | refine blk_drew ?_ | refine blk_alloc ?_ _)); refine blk_put (cs := #[.string (⟨#[]⟩ : ByteArray), .int .i64 0, .int .i64 0]) ?_ 0 _ rfl; (with_reducible repeat (first | refine blk_drewN ?_ _ | refine blk_drew ?_ | refine blk_alloc ?_ _)); exact BK319.out) hb); have n6_ := Aside0.mk (below_step (by repeat (first | (with_reducible first | exact HB.out | apply below_alloc | apply pw_below_drewN | apply below_drew1 | refine below_set ?_ GE316.out | refine below_set ?_ GE317.out | refine below_set ?_ GE319.out) | exact HB.out)) hb); clear HO_8; clear HO_33; clear HL311_0; clear BK316; clear BK317; clear BK319; clear HB; have HO_8 := n0_; have HO_33 := n1_; have HL311_0 := n2_; have BK316 := n3_; have BK317 := n4_; have BK319 := n5_; have HB := n6_; clear n0_ n1_ n2_ n3_ n4_ n5_ n6_; (try clear hb); (try clear hb2); (try clear hk); (try clear hi)))
 go_roundg k2
 case measure => have := HJ3.out; have := HK2.out; omega
 case rel => exact ⟨(x8_2), (wrap64 (x35_2 + 1)), (by first | rfl | (simp; done) | (simp [*]; done)), H', ⟨by have := HJ3.out; have := HK2.out; omega⟩, ⟨by (with_reducible repeat (first | apply Kd.R_alloc | apply Kd.R_drewN | apply Kd.R_drew)); exact Kd.R_mono HO_8.out (fun _ hk => trivial)⟩, ⟨by (with_reducible repeat (first | apply Kd.S_alloc | apply Kd.S_drewN | apply Kd.S_drew)); exact HO_33.out⟩, ⟨by repeat (first | (with_reducible first | exact HB.out | apply below_alloc | apply pw_below_drewN | apply below_drew1 | refine below_set ?_ GE316.out | refine below_set ?_ GE317.out | refine below_set ?_ GE319.out) | exact HB.out)⟩⟩
 }
 {
 replace c30 := Bool.eq_false_iff.mpr c30
 subst c30
 have H1 : ((impl_Turn_valid.f k2 ((rd_T38 l1 (rd (rd_L5 t308 x35_2) 0)).f1) (wrap64 (t318 + ((rd_T38 l1 (rd (rd_L5 t308 x35_2) 0)).f2))) a2).bind fun t321 => (if t321 = true then ((impl_Turn_48_at_impl_compareTurns.f k2 x8_2 ((rd_T38 l1 (rd (rd_L5 t308 x35_2) 0)).f1) (wrap64 (t318 + ((rd_T38 l1 (rd (rd_L5 t308 x35_2) 0)).f2))) a2).bind fun bt322 => ((impl_Turn_50.f x8_2 bt322.1 (([(⟨(rd_T38 l1 (rd (rd_L5 t308 x35_2) 0)).f1, wrap64 (t318 + ((rd_T38 l1 (rd (rd_L5 t308 x35_2) 0)).f2)), a2⟩ : S36)] : List (S36)))).bind fun t327 => (impl_AddAnswers.l0 k2 l0 l1 a2 t327 t308 (t308.length : Int) (wrap64 (x35_2 + 1))))) else (none))) = some (r1, r2) := by rw [if_neg (show ¬ (false = true) by decide)] at H; exact H
 clear H
 have H := H1
 clear H1
 replace H := Option.bind_eq_some_iff.mp H
 obtain ⟨t321, A540, H⟩ := H
 replace H : (if t321 = true then ((impl_Turn_48_at_impl_compareTurns.f k2 x8_2 ((rd_T38 l1 (rd (rd_L5 t308 x35_2) 0)).f1) (wrap64 (t318 + ((rd_T38 l1 (rd (rd_L5 t308 x35_2) 0)).f2))) a2).bind fun bt322 => ((impl_Turn_50.f x8_2 bt322.1 (([(⟨(rd_T38 l1 (rd (rd_L5 t308 x35_2) 0)).f1, wrap64 (t318 + ((rd_T38 l1 (rd (rd_L5 t308 x35_2) 0)).f2)), a2⟩ : S36)] : List (S36)))).bind fun t327 => (impl_AddAnswers.l0 k2 l0 l1 a2 t327 t308 (t308.length : Int) (wrap64 (x35_2 + 1))))) else (none)) = some (r1, r2) := H
 have A54 := Aside0.mk A540
 clear A540
 by_cases c55 : t321 = true
 {
 subst c55
 have H1 : ((impl_Turn_48_at_impl_compareTurns.f k2 x8_2 ((rd_T38 l1 (rd (rd_L5 t308 x35_2) 0)).f1) (wrap64 (t318 + ((rd_T38 l1 (rd (rd_L5 t308 x35_2) 0)).f2))) a2).bind fun bt322 => ((impl_Turn_50.f x8_2 bt322.1 (([(⟨(rd_T38 l1 (rd (rd_L5 t308 x35_2) 0)).f1, wrap64 (t318 + ((rd_T38 l1 (rd (rd_L5 t308 x35_2) 0)).f2)), a2⟩ : S36)] : List (S36)))).bind fun t327 => (impl_AddAnswers.l0 k2 l0 l1 a2 t327 t308 (t308.length : Int) (wrap64 (x35_2 + 1))))) = some (r1, r2) := by rw [if_pos rfl] at H; exact H
 clear H
 have H := H1
 clear H1
 replace H := Option.bind_eq_some_iff.mp H
 obtain ⟨⟨t322, t323⟩, A560, H⟩ := H
 replace H : ((impl_Turn_50.f x8_2 t322 (([(⟨(rd_T38 l1 (rd (rd_L5 t308 x35_2) 0)).f1, wrap64 (t318 + ((rd_T38 l1 (rd (rd_L5 t308 x35_2) 0)).f2)), a2⟩ : S36)] : List (S36)))).bind fun t327 => (impl_AddAnswers.l0 k2 l0 l1 a2 t327 t308 (t308.length : Int) (wrap64 (x35_2 + 1)))) = some (r1, r2) := H
 have A56 := Aside0.mk A560
 clear A560
 obtain ⟨y324, hy324⟩ : ∃ y_ : List (S36), y_ = (([(⟨(rd_T38 l1 (rd (rd_L5 t308 x35_2) 0)).f1, wrap64 (t318 + ((rd_T38 l1 (rd (rd_L5 t308 x35_2) 0)).f2)), a2⟩ : S36)] : List (S36))) := ⟨_, rfl⟩
 replace H : ((impl_Turn_50.f x8_2 t322 y324).bind fun t327 => (impl_AddAnswers.l0 k2 l0 l1 a2 t327 t308 (t308.length : Int) (wrap64 (x35_2 + 1)))) = some (r1, r2) := by first | (rw [hy324]; with_reducible exact H) | (have H2_ := (Option.bind_some _ _).symm.trans H; rw [hy324]; with_reducible exact H2_) | (have H2_ := (Option.bind_some _ _).symm.trans H; with_reducible exact H2_) | with_reducible exact H | (rw [hy324]; exact H) | exact H
 have Ny324 := Aside0.mk hy324
 clear hy324
 replace H := Option.bind_eq_some_iff.mp H
 obtain ⟨t327, A570, H⟩ := H
 replace H : (impl_AddAnswers.l0 k2 l0 l1 a2 t327 t308 (t308.length : Int) (wrap64 (x35_2 + 1))) = some (r1, r2) := H
 have A57 := Aside0.mk A570
 clear A570
 have H' := Aside0.mk H
 clear H
 have p311 : 0 ≤ (x35_2 : Int) := of_decide_eq_true (by first | (with_reducible assumption) | assumption)
 have q311 : x35_2 < (t308.length : Int) := of_decide_eq_true (by first | (with_reducible assumption) | assumption)
 obtain ⟨ad311, A311_0, c311_0, e311, hx311_0, hl311_0, hi311_0⟩ := at_L5 (Kd.S_reads' HO_33.out).2.2 x35_2 p311 q311
 cases e311
 obtain ⟨ce311, hce311, hMe311, hcc311⟩ := Kd.S_get HO_33.out [] x35_2 p311 (by first | exact q311 | exact of_decide_eq_true (by first | (with_reducible assumption) | assumption) | (have e_ := (Kd.S_reads' HO_33.out).1; omega))
 obtain ⟨ve311_0, rfl, ge311_0⟩ := hMe311
 have hv311_0 := hcc311 0 _ rfl
 rw [Nat.add_zero, show ((Kd.slice 2 (Kd.int .i64))).sz = 1 from rfl, Nat.mul_one] at hv311_0
 replace hv311_0 := Option.some.inj (hv311_0.symm.trans hx311_0)
 rw [hv311_0] at ge311_0
 have HL311_0 := Aside0.mk (show Kd.R (Kd.int .i64) 2 _ _ _ _ (rd_L5 t308 x35_2) from ge311_0)
 clear hv311_0 ge311_0
 clear hcc311 hce311
 have HR311_0 := Aside0.mk hi311_0
 have HC311_0 := Aside0.mk hl311_0
 clear hi311_0 hl311_0
 replace p311 := eq_true p311
 replace q311 := eq_true q311
 try go_wp2
 have n0_ := Aside0.mk (Kd.R_drew HO_8.out)
 have n1_ := Aside0.mk (Kd.S_drew HO_33.out)
 have n2_ := Aside0.mk (Kd.R_drew HL311_0.out)
 have n3_ := Aside0.mk (Kd.C_drew HR311_0.out)
 have n4_ := Aside0.mk (below_drew1 HB.out)
 clear HO_8
 clear HO_33
 clear HL311_0
 clear HR311_0
 clear HB
 have HO_8 := n0_
 have HO_33 := n1_
 have HL311_0 := n2_
 have HR311_0 := n3_
 have HB := n4_
 clear n0_ n1_ n2_ n3_ n4_
 have p312 : 0 ≤ (0 : Int) := (by omega)
 have q312 : 0 < ((rd_L5 t308 x35_2).length : Int) := of_decide_eq_true (by first | (with_reducible assumption) | assumption)
 obtain ⟨ad312, e312, hx312_0⟩ := Kd.at_int (by repeat (first | (with_reducible exact HR311_0.out) | (with_reducible refine Kd.C_alloc ?_ _) | (with_reducible refine Kd.C_drewN ?_ _) | (with_reducible refine Kd.C_drew ?_) | exact HR311_0.out)) 0 p312 q312
 cases e312
 have qi312 : (0 < (rd_L5 t308 x35_2).length) = True := eq_true (by omega)
 (try rw [show ((0 : Int)).toNat = 0 from rfl] at hx312_0)
 (try rw [Addr.add_zero'] at hx312_0)
 replace p312 := eq_true p312
 replace q312 := eq_true q312
 have p313 : 0 ≤ ((rd (rd_L5 t308 x35_2) 0) : Int) := of_decide_eq_true (by first | (with_reducible assumption) | assumption)
 have q313 : (rd (rd_L5 t308 x35_2) 0) < (l1.length : Int) := of_decide_eq_true (by first | (with_reducible assumption) | assumption)
 obtain ⟨ad313, e313, hx313_0, hx313_1, hx313_2⟩ := at_T38 HR1.out (rd (rd_L5 t308 x35_2) 0) p313 q313
 have hw313_2 := hx313_2
 have hw313_1 := hx313_1
 have hw313_0 := hx313_0
 cases e313
 replace hx313_0 := (HB.out.cell (World.block_lt_of_cell? w _ hx313_0)).trans hx313_0
 replace hx313_1 := (HB.out.cell (World.block_lt_of_cell? w _ hx313_1)).trans hx313_1
 replace hx313_2 := (HB.out.cell (World.block_lt_of_cell? w _ hx313_2)).trans hx313_2
 replace p313 := eq_true p313
 replace q313 := eq_true q313
 have p314 : 0 ≤ (1 : Int) := (by omega)
 have q314 : 1 < ((rd_L5 t308 x35_2).length : Int) := of_decide_eq_true (by first | (with_reducible assumption) | assumption)
 obtain ⟨ad314, e314, hx314_0⟩ := Kd.at_int (by repeat (first | (with_reducible exact HR311_0.out) | (with_reducible refine Kd.C_alloc ?_ _) | (with_reducible refine Kd.C_drewN ?_ _) | (with_reducible refine Kd.C_drew ?_) | exact HR311_0.out)) 1 p314 q314
 obtain rfl : ad312 = ad314 := (by injection e314)
 (try simp only [show (1 : Int).toNat = 1 from rfl, Nat.reduceMul, Nat.reduceEqDiff, Go.Addr.add, ↓reduceIte] at hx314_0)
 have qi314 : (1 < (rd_L5 t308 x35_2).length) = True := eq_true (by omega)
 (try rw [show ((1 : Int)).toNat = 1 from rfl] at hx314_0)
 replace p314 := eq_true p314
 replace q314 := eq_true q314
 have p315 : 0 ≤ ((rd (rd_L5 t308 x35_2) 1) : Int) := of_decide_eq_true (by first | (with_reducible assumption) | assumption)
 have q315 : (rd (rd_L5 t308 x35_2) 1) < (l0.length : Int) := of_decide_eq_true (by first | (with_reducible assumption) | assumption)
 obtain ⟨ad315, e315, hx315_0, hx315_1, hx315_2⟩ := at_T36 HR0.out (rd (rd_L5 t308 x35_2) 1) p315 q315
 have hw315_2 := hx315_2
 have hw315_1 := hx315_1
 have hw315_0 := hx315_0
 cases e315
 replace hx315_0 := (HB.out.cell (World.block_lt_of_cell? w _ hx315_0)).trans hx315_0
 replace hx315_1 := (HB.out.cell (World.block_lt_of_cell? w _ hx315_1)).trans hx315_1
 replace hx315_2 := (HB.out.cell (World.block_lt_of_cell? w _ hx315_2)).trans hx315_2
 replace p315 := eq_true p315
 replace q315 := eq_true q315
 refine start_ (n := 16) (S := fun w' => w'.cell? ad312 = some (.int .i64 (rd (rd_L5 t308 x35_2) 0)) ∧ w'.cell? (ad313.add (((rd (rd_L5 t308 x35_2) 0)).toNat * 3)) = some (.string ((rd_T38 l1 (rd (rd_L5 t308 x35_2) 0)).f0)) ∧ w'.cell? ⟨(ad313.add (((rd (rd_L5 t308 x35_2) 0)).toNat * 3)).block, (ad313.add (((rd (rd_L5 t308 x35_2) 0)).toNat * 3)).off + 1, none⟩ = some (.string ((rd_T38 l1 (rd (rd_L5 t308 x35_2) 0)).f1)) ∧ w'.cell? ⟨(ad313.add (((rd (rd_L5 t308 x35_2) 0)).toNat * 3)).block, (ad313.add (((rd (rd_L5 t308 x35_2) 0)).toNat * 3)).off + 2, none⟩ = some (.int .i64 ((rd_T38 l1 (rd (rd_L5 t308 x35_2) 0)).f2)) ∧ w'.cell? ⟨ad312.block, ad312.off + 1, none⟩ = some (.int .i64 (rd (rd_L5 t308 x35_2) 1)) ∧ w'.cell? (ad315.add (((rd (rd_L5 t308 x35_2) 1)).toNat * 3)) = some (.string ((rd_T36 l0 (rd (rd_L5 t308 x35_2) 1)).f0)) ∧ w'.cell? ⟨(ad315.add (((rd (rd_L5 t308 x35_2) 1)).toNat * 3)).block, (ad315.add (((rd (rd_L5 t308 x35_2) 1)).toNat * 3)).off + 1, none⟩ = some (.int .i64 ((rd_T36 l0 (rd (rd_L5 t308 x35_2) 1)).f1)) ∧ w'.cell? ⟨(ad315.add (((rd (rd_L5 t308 x35_2) 1)).toNat * 3)).block, (ad315.add (((rd (rd_L5 t308 x35_2) 1)).toNat * 3)).off + 2, none⟩ = some (.int .i64 ((rd_T36 l0 (rd (rd_L5 t308 x35_2) 1)).f2))) (ds := []) #[false, false, false, false, false, false, false, false, false, false, false, false, false, false, false, false] (by kernel_rfl) rfl rfl ⟨hx312_0, ((HB.out.cell (World.block_lt_of_cell? w _ hw313_0)).trans hw313_0), ((HB.out.cell (World.block_lt_of_cell? w _ hw313_1)).trans hw313_1), ((HB.out.cell (World.block_lt_of_cell? w _ hw313_2)).trans hw313_2), hx314_0, ((HB.out.cell (World.block_lt_of_cell? w _ hw315_0)).trans hw315_0), ((HB.out.cell (World.block_lt_of_cell? w _ hw315_1)).trans hw315_1), ((HB.out.cell (World.block_lt_of_cell? w _ hw315_2)).trans hw315_2)⟩ (fun hHeld => ?_); refine with_tabW impl_AddAnswers.tab9 impl_AddAnswers.bits9 (fun HT_ HW_ => ?_)
 generalize wr.drew = w58 at HO_8 HO_33 HL311_0 HR311_0 HB hx312_0 hx313_0 hx313_1 hx313_2 hx314_0 hx315_0 hx315_1 hx315_2 hHeld ⊢
 refine pure_ (i := 0) (N := some 39) (v := ?_) (a' := ?_) #[true, false, false, false, false, false, false, false, false, false, false, false, false, false, false, false] rfl rfl (any_of HT_.out (by kernel_rfl)) (fun _ _ _ h => h) (Or.inl ⟨by rfl, ?_⟩) ?_ ?_
 rotate_left
 {
 intro w'
 go_simp
 with_reducible rfl
 }
 rotate_left
 {
 simp only [Act.put, List.setIfInBounds_toArray, List.set_cons_zero, List.set_cons_succ, i64_w, i32_w]
 rfl
 }
 refine pure_ (i := 1) (N := some 40) (v := ?_) (a' := ?_) #[true, true, false, false, false, false, false, false, false, false, false, false, false, false, false, false] rfl rfl (any_of HT_.out (by kernel_rfl)) (fun _ _ _ h => h) (Or.inl ⟨by rfl, ?_⟩) ?_ ?_
 rotate_left
 {
 intro w'
 go_simp
 with_reducible rfl
 }
 rotate_left
 {
 simp only [Act.put, List.setIfInBounds_toArray, List.set_cons_zero, List.set_cons_succ, i64_w, i32_w]
 rfl
 }
 refine pure_ (i := 2) (N := some 41) (v := ?_) (a' := ?_) #[true, true, true, false, false, false, false, false, false, false, false, false, false, false, false, false] rfl rfl (any_of HT_.out (by kernel_rfl)) (fun _ _ _ h => h) (Or.inl ⟨by rfl, ?_⟩) ?_ ?_
 rotate_left
 {
 intro w'
 go_simp
 with_reducible rfl
 }
 rotate_left
 {
 simp only [Act.put, List.setIfInBounds_toArray, List.set_cons_zero, List.set_cons_succ, i64_w, i32_w]
 rfl
 }
 refine pure_ (i := 6) (N := some 45) (v := ?_) (a' := ?_) #[true, true, true, false, false, false, true, false, false, false, false, false, false, false, false, false] rfl rfl (any_of HT_.out (by kernel_rfl)) (fun _ _ _ h => h) (Or.inl ⟨by rfl, ?_⟩) ?_ ?_
 rotate_left
 {
 intro w'
 go_simp
 with_reducible rfl
 }
 rotate_left
 {
 simp only [Act.put, List.setIfInBounds_toArray, List.set_cons_zero, List.set_cons_succ, i64_w, i32_w]
 rfl
 }
 refine pure_ (i := 7) (N := some 46) (v := ?_) (a' := ?_) #[true, true, true, false, false, false, true, true, false, false, false, false, false, false, false, false] rfl rfl (any_of HT_.out (by kernel_rfl)) (fun _ _ _ h => h) (Or.inl ⟨by rfl, ?_⟩) ?_ ?_
 rotate_left
 {
 intro w'
 go_simp
 with_reducible rfl
 }
 rotate_left
 {
 simp only [Act.put, List.setIfInBounds_toArray, List.set_cons_zero, List.set_cons_succ, i64_w, i32_w]
 rfl
 }
 refine pure_ (i := 8) (N := some 47) (v := ?_) (a' := ?_) #[true, true, true, false, false, false, true, true, true, false, false, false, false, false, false, false] rfl rfl (any_of HT_.out (by kernel_rfl)) (fun _ _ _ h => h) (Or.inl ⟨by rfl, ?_⟩) ?_ ?_
 rotate_left
 {
 intro w'
 go_simp
 with_reducible rfl
 }
 rotate_left
 {
 simp only [Act.put, List.setIfInBounds_toArray, List.set_cons_zero, List.set_cons_succ, i64_w, i32_w]
 rfl
 }
 refine take_ (i := 3) (N := some 42) (v := ?_) (a' := ?_) #[true, true, true, true, false, false, true, true, true, false, false, false, false, false, false, false] rfl rfl (take_ofW HT_.out HW_.out (by kernel_rfl)) (fun _ _ _ h => h) (Or.inl ⟨by rfl, ?_⟩) hHeld ?_ ?_
 rotate_left
 {
 rintro w' ⟨s0, s1, s2, s3, s4, s5, s6, s7⟩
 go_simp
 with_reducible rfl
 }
 rotate_left
 {
 simp only [Act.put, List.setIfInBounds_toArray, List.set_cons_zero, List.set_cons_succ, i64_w, i32_w]
 rfl
 }
 refine pure_ (i := 4) (N := some 43) (v := ?_) (a' := ?_) #[true, true, true, true, true, false, true, true, true, false, false, false, false, false, false, false] rfl rfl (any_of HT_.out (by kernel_rfl)) (fun _ _ _ h => h) (Or.inl ⟨by rfl, ?_⟩) ?_ ?_
 rotate_left
 {
 intro w'
 go_simp
 with_reducible rfl
 }
 rotate_left
 {
 simp only [Act.put, List.setIfInBounds_toArray, List.set_cons_zero, List.set_cons_succ, i64_w, i32_w]
 rfl
 }
 refine take_ (i := 5) (N := some 44) (v := ?_) (a' := ?_) #[true, true, true, true, true, true, true, true, true, false, false, false, false, false, false, false] rfl rfl (take_ofW HT_.out HW_.out (by kernel_rfl)) (fun _ _ _ h => h) (Or.inl ⟨by rfl, ?_⟩) hHeld ?_ ?_
 rotate_left
 {
 rintro w' ⟨s0, s1, s2, s3, s4, s5, s6, s7⟩
 go_simp
 with_reducible rfl
 }
 rotate_left
 {
 simp only [Act.put, List.setIfInBounds_toArray, List.set_cons_zero, List.set_cons_succ, i64_w, i32_w]
 rfl
 }
 refine take_ (i := 9) (N := some 48) (v := ?_) (a' := ?_) #[true, true, true, true, true, true, true, true, true, true, false, false, false, false, false, false] rfl rfl (take_ofW HT_.out HW_.out (by kernel_rfl)) (fun _ _ _ h => h) (Or.inl ⟨by rfl, ?_⟩) hHeld ?_ ?_
 rotate_left
 {
 rintro w' ⟨s0, s1, s2, s3, s4, s5, s6, s7⟩
 go_simp
 with_reducible rfl
 }
 rotate_left
 {
 simp only [Act.put, List.setIfInBounds_toArray, List.set_cons_zero, List.set_cons_succ, i64_w, i32_w]
 rfl
 }
 refine pure_ (i := 10) (N := some 49) (v := ?_) (a' := ?_) #[true, true, true, true, true, true, true, true, true, true, true, false, false, false, false, false] rfl rfl (any_of HT_.out (by kernel_rfl)) (fun _ _ _ h => h) (Or.inl ⟨by rfl, ?_⟩) ?_ ?_
 rotate_left
 {
 intro w'
 go_simp
 with_reducible rfl
 }
 rotate_left
 {
 simp only [Act.put, List.setIfInBounds_toArray, List.set_cons_zero, List.set_cons_succ, i64_w, i32_w]
 rfl
 }
 refine take_ (i := 11) (N := some 50) (v := ?_) (a' := ?_) #[true, true, true, true, true, true, true, true, true, true, true, true, false, false, false, false] rfl rfl (take_ofW HT_.out HW_.out (by kernel_rfl)) (fun _ _ _ h => h) (Or.inl ⟨by rfl, ?_⟩) hHeld ?_ ?_
 rotate_left
 {
 rintro w' ⟨s0, s1, s2, s3, s4, s5, s6, s7⟩
 go_simp
 with_reducible rfl
 }
 rotate_left
 {
 simp only [Act.put, List.setIfInBounds_toArray, List.set_cons_zero, List.set_cons_succ, i64_w, i32_w]
 rfl
 }
 refine join_ (σ := Nat × Nat) 2 #[true, true, true, true, true, true, true, true, true, true, true, true, true, true, false, false] (fun s_ => [(11, .pointer (some ⟨s_.1, 0, none⟩)), (12, .pointer (some ⟨s_.2, 0, none⟩))]) (fun s_ w' => (w'.cell? ad312 = some (.int .i64 (rd (rd_L5 t308 x35_2) 0)) ∧ w'.cell? (ad313.add (((rd (rd_L5 t308 x35_2) 0)).toNat * 3)) = some (.string ((rd_T38 l1 (rd (rd_L5 t308 x35_2) 0)).f0)) ∧ w'.cell? ⟨(ad313.add (((rd (rd_L5 t308 x35_2) 0)).toNat * 3)).block, (ad313.add (((rd (rd_L5 t308 x35_2) 0)).toNat * 3)).off + 1, none⟩ = some (.string ((rd_T38 l1 (rd (rd_L5 t308 x35_2) 0)).f1)) ∧ w'.cell? ⟨(ad313.add (((rd (rd_L5 t308 x35_2) 0)).toNat * 3)).block, (ad313.add (((rd (rd_L5 t308 x35_2) 0)).toNat * 3)).off + 2, none⟩ = some (.int .i64 ((rd_T38 l1 (rd (rd_L5 t308 x35_2) 0)).f2)) ∧ w'.cell? ⟨ad312.block, ad312.off + 1, none⟩ = some (.int .i64 (rd (rd_L5 t308 x35_2) 1)) ∧ w'.cell? (ad315.add (((rd (rd_L5 t308 x35_2) 1)).toNat * 3)) = some (.string ((rd_T36 l0 (rd (rd_L5 t308 x35_2) 1)).f0)) ∧ w'.cell? ⟨(ad315.add (((rd (rd_L5 t308 x35_2) 1)).toNat * 3)).block, (ad315.add (((rd (rd_L5 t308 x35_2) 1)).toNat * 3)).off + 1, none⟩ = some (.int .i64 ((rd_T36 l0 (rd (rd_L5 t308 x35_2) 1)).f1)) ∧ w'.cell? ⟨(ad315.add (((rd (rd_L5 t308 x35_2) 1)).toNat * 3)).block, (ad315.add (((rd (rd_L5 t308 x35_2) 1)).toNat * 3)).off + 2, none⟩ = some (.int .i64 ((rd_T36 l0 (rd (rd_L5 t308 x35_2) 1)).f2))) ∧ (Kd.R (Kd.int .i64) 2 w' w.heap.size (fun k_ => some k_ ≠ (.slice (some ad311) t308.length co18 : Value).ownBlock) (.slice (some ad312) (rd_L5 t308 x35_2).length c311_0) (rd_L5 t308 x35_2)) ∧ (Kd.S (Kd.slice 2 (Kd.int .i64)) 34 w' w.heap.size (fun _ => True) (.slice (some ad311) t308.length co18) t308) ∧ (Kd.R k36 36 w' w.heap.size (fun k_ => k_ ≠ s_.2) u8 x8_2) ∧ (w'.heap[s_.1]? = some (.cells #[.string (⟨#[]⟩ : ByteArray), .string (⟨#[]⟩ : ByteArray), .int .i64 0] 38 (0, 0))) ∧ (w'.heap[s_.2]? = some (.cells #[.string (⟨#[]⟩ : ByteArray), .int .i64 0, .int .i64 0] 36 (0, 0))) ∧ (w.heap.size ≤ s_.1) ∧ (w.heap.size ≤ s_.1) ∧ (s_.2 ≠ s_.1) ∧ (s_.1 ≠ s_.2) ∧ (w.heap.size ≤ s_.2) ∧ (w.heap.size ≤ s_.2) ∧ (Below w.heap.size w w')) ?_ ?_
 rotate_left
 {
 intro hCont
 refine two_ (i := 12) (j := 13) (Ni := some 11) (Nj := some 12) #[true, true, true, true, true, true, true, true, true, true, true, true, true, false, false, false] #[true, true, true, true, true, true, true, true, true, true, true, true, false, true, false, false] rfl rfl rfl rfl (two_of HT_.out (by kernel_rfl)) (by decide) (by decide) (fun K hK => ?_) (fun K hK => ?_)
 {
 skip
 refine box_step ?hg (N := 11) ?hd (cs := #[.string (⟨#[]⟩ : ByteArray), .string (⟨#[]⟩ : ByteArray), .int .i64 0]) (t := 38) ?hr ?_; (case hd => rfl); (case hg => rfl); (case hr => first | (go_simp; done) | (go_simp; rfl))
 intro gb316 hg w59 hbox hb
 have HS0_ := (hb.cell (World.block_lt_of_cell? _ _ (hHeld.1))).trans (hHeld.1)
 have HS4_ := (hb.cell (World.block_lt_of_cell? _ _ (hHeld.2.2.2.2.1))).trans (hHeld.2.2.2.2.1)
 have n0_ := Aside0.mk (Kd.R_below (by (with_reducible repeat (first | apply Kd.R_alloc | apply Kd.R_drewN | apply Kd.R_drew)); exact HO_8.out) hb)
 have n1_ := Aside0.mk (Kd.S_below (by (with_reducible repeat (first | apply Kd.S_alloc | apply Kd.S_drewN | apply Kd.S_drew)); exact HO_33.out) hb)
 have n2_ := Aside0.mk (Kd.R_below (by (with_reducible repeat (first | apply Kd.R_alloc | apply Kd.R_drewN | apply Kd.R_drew)); exact HL311_0.out) hb)
 have n3_ := Aside0.mk (Kd.C_below (by repeat (first | (with_reducible exact HR311_0.out) | (with_reducible refine Kd.C_alloc ?_ _) | (with_reducible refine Kd.C_drewN ?_ _) | (with_reducible refine Kd.C_drew ?_) | exact HR311_0.out)) hb)
 have n4_ := Aside0.mk (below_step (by repeat (first | (with_reducible first | exact HB.out | apply below_alloc | apply pw_below_drewN | apply below_drew1) | exact HB.out)) hb)
 have n5_ := Aside0.mk (hbox)
 have n6_ := Aside0.mk ((by rw [hg]; exact (below_size (by repeat (first | (with_reducible first | exact HB.out | apply below_alloc | apply pw_below_drewN | apply below_drew1) | exact HB.out))) : w.heap.size ≤ gb316))
 have n7_ := Aside0.mk ((by rw [hg]; exact (below_size (by repeat (first | (with_reducible first | exact HB.out | apply below_alloc | apply pw_below_drewN | apply below_drew1) | exact HB.out))) : w.heap.size ≤ gb316))
 clear HO_8
 clear HO_33
 clear HL311_0
 clear HR311_0
 clear HB
 have HO_8 := n0_
 have HO_33 := n1_
 have HL311_0 := n2_
 have HR311_0 := n3_
 have HB := n4_
 have BK316 := n5_
 have GW316 := n6_
 have GE316 := n7_
 clear n0_ n1_ n2_ n3_ n4_ n5_ n6_ n7_
 clear hb hbox hg
 refine hK.out _ _ ⟨HS0_, ((HB.out.cell (World.block_lt_of_cell? w _ hw313_0)).trans hw313_0), ((HB.out.cell (World.block_lt_of_cell? w _ hw313_1)).trans hw313_1), ((HB.out.cell (World.block_lt_of_cell? w _ hw313_2)).trans hw313_2), HS4_, ((HB.out.cell (World.block_lt_of_cell? w _ hw315_0)).trans hw315_0), ((HB.out.cell (World.block_lt_of_cell? w _ hw315_1)).trans hw315_1), ((HB.out.cell (World.block_lt_of_cell? w _ hw315_2)).trans hw315_2)⟩ (fun hHeld => ?_)
 clear hK K
 refine norm_ (a' := ?_) ?_ ?_
 rotate_left
 {
 show Act.put _ (some 11) _ = _
 simp only [Act.put, List.setIfInBounds_toArray, List.set_cons_zero, List.set_cons_succ, i64_w, i32_w]
 rfl
 }
 refine one_ (i := 13) (N := some 12) #[true, true, true, true, true, true, true, true, true, true, true, true, true, true, false, false] rfl rfl (one_of HT_.out (by kernel_rfl)) (by decide) (fun K hK => ?_)
 refine box_step ?hg (N := 12) ?hd (cs := #[.string (⟨#[]⟩ : ByteArray), .int .i64 0, .int .i64 0]) (t := 36) ?hr ?_; (case hd => rfl); (case hg => rfl); (case hr => first | (go_simp; done) | (go_simp; rfl))
 intro gb317 hg w60 hbox hb
 have HS0_ := (hb.cell (World.block_lt_of_cell? _ _ (hHeld.1))).trans (hHeld.1)
 have HS4_ := (hb.cell (World.block_lt_of_cell? _ _ (hHeld.2.2.2.2.1))).trans (hHeld.2.2.2.2.1)
 have n0_ := Aside0.mk (Kd.R_below (Kd.R_elderB (by (with_reducible repeat (first | apply Kd.R_alloc | apply Kd.R_drewN | apply Kd.R_drew)); exact HO_8.out) gb317 (Nat.le_of_eq hg.symm)) hb)
 have n1_ := Aside0.mk (Kd.S_below (by (with_reducible repeat (first | apply Kd.S_alloc | apply Kd.S_drewN | apply Kd.S_drew)); exact HO_33.out) hb)
 have n2_ := Aside0.mk (Kd.R_below (by (with_reducible repeat (first | apply Kd.R_alloc | apply Kd.R_drewN | apply Kd.R_drew)); exact HL311_0.out) hb)
 have n3_ := Aside0.mk (Kd.C_below (by repeat (first | (with_reducible exact HR311_0.out) | (with_reducible refine Kd.C_alloc ?_ _) | (with_reducible refine Kd.C_drewN ?_ _) | (with_reducible refine Kd.C_drew ?_) | exact HR311_0.out)) hb)
 have n4_ := Aside0.mk (blk_below (g := gb316) (o := .cells #[.string (⟨#[]⟩ : ByteArray), .string (⟨#[]⟩ : ByteArray), .int .i64 0] 38 (0, 0)) (by (with_reducible repeat (first | refine blk_drewN ?_ _ | refine blk_drew ?_ | refine blk_alloc ?_ _)); exact BK316.out) hb)
 have n5_ := Aside0.mk (below_step (by repeat (first | (with_reducible first | exact HB.out | apply below_alloc | apply pw_below_drewN | apply below_drew1 | refine below_set ?_ GE316.out) | exact HB.out)) hb)
 have n6_ := Aside0.mk (hbox)
 have n7_ := Aside0.mk ((by rw [hg]; exact (below_size (by repeat (first | (with_reducible first | exact HB.out | apply below_alloc | apply pw_below_drewN | apply below_drew1 | refine below_set ?_ GE316.out) | exact HB.out))) : w.heap.size ≤ gb317))
 have n8_ := Aside0.mk ((by rw [hg]; exact (below_size (by repeat (first | (with_reducible first | exact HB.out | apply below_alloc | apply pw_below_drewN | apply below_drew1 | refine below_set ?_ GE316.out) | exact HB.out))) : w.heap.size ≤ gb317))
 have n9_ := Aside0.mk ((by rw [hg]; exact Nat.ne_of_lt (blk_lt (g := gb316) (o := .cells #[.string (⟨#[]⟩ : ByteArray), .string (⟨#[]⟩ : ByteArray), .int .i64 0] 38 (0, 0)) (by (with_reducible repeat (first | refine blk_drewN ?_ _ | refine blk_drew ?_ | refine blk_alloc ?_ _)); exact BK316.out)) : gb316 ≠ gb317))
 have n10_ := Aside0.mk ((by rw [hg]; exact Nat.ne_of_gt (blk_lt (g := gb316) (o := .cells #[.string (⟨#[]⟩ : ByteArray), .string (⟨#[]⟩ : ByteArray), .int .i64 0] 38 (0, 0)) (by (with_reducible repeat (first | refine blk_drewN ?_ _ | refine blk_drew ?_ | refine blk_alloc ?_ _)); exact BK316.out)) : gb317 ≠ gb316))
 clear HO_8
 clear HO_33
 clear HL311_0
 clear HR311_0
 clear BK316
 clear HB
 have HO_8 := n0_
 have HO_33 := n1_
 have HL311_0 := n2_
 have HR311_0 := n3_
 have BK316 := n4_
 have HB := n5_
 have BK317 := n6_
 have GW317 := n7_
 have GE317 := n8_
 have NB316_317 := n9_
 have NB317_316 := n10_
 clear n0_ n1_ n2_ n3_ n4_ n5_ n6_ n7_ n8_ n9_ n10_
 clear hb hbox hg
 refine hK.out _ _ ⟨HS0_, ((HB.out.cell (World.block_lt_of_cell? w _ hw313_0)).trans hw313_0), ((HB.out.cell (World.block_lt_of_cell? w _ hw313_1)).trans hw313_1), ((HB.out.cell (World.block_lt_of_cell? w _ hw313_2)).trans hw313_2), HS4_, ((HB.out.cell (World.block_lt_of_cell? w _ hw315_0)).trans hw315_0), ((HB.out.cell (World.block_lt_of_cell? w _ hw315_1)).trans hw315_1), ((HB.out.cell (World.block_lt_of_cell? w _ hw315_2)).trans hw315_2)⟩ (fun hHeld => ?_)
 clear hK K
 refine norm_ (a' := ?_) ?_ ?_
 rotate_left
 {
 show Act.put _ (some 12) _ = _
 simp only [Act.put, List.setIfInBounds_toArray, List.set_cons_zero, List.set_cons_succ, i64_w, i32_w]
 rfl
 }
 exact norm_ (by simp only [putAll, Act.put, List.setIfInBounds_toArray, List.set_cons_zero, List.set_cons_succ]) (hCont (gb316, gb317) _ ⟨hHeld, (by (with_reducible repeat (first | apply Kd.R_alloc | apply Kd.R_drewN | apply Kd.R_drew)); exact Kd.R_mono HL311_0.out (fun _ hk => hk.2)), (by (with_reducible repeat (first | apply Kd.S_alloc | apply Kd.S_drewN | apply Kd.S_drew)); exact HO_33.out), (by (with_reducible repeat (first | apply Kd.R_alloc | apply Kd.R_drewN | apply Kd.R_drew)); exact Kd.R_mono HO_8.out (fun _ hk => hk.2)), (by (with_reducible repeat (first | refine blk_drewN ?_ _ | refine blk_drew ?_ | refine blk_alloc ?_ _)); exact BK316.out), (by (with_reducible repeat (first | refine blk_drewN ?_ _ | refine blk_drew ?_ | refine blk_alloc ?_ _)); exact BK317.out), GW316.out, GE316.out, NB317_316.out, NB316_317.out, GW317.out, GE317.out, (by repeat (first | (with_reducible first | exact HB.out | apply below_alloc | apply pw_below_drewN | apply below_drew1 | refine below_set ?_ GE316.out | refine below_set ?_ GE317.out) | exact HB.out))⟩)
 }
 {
 skip
 refine box_step ?hg (N := 12) ?hd (cs := #[.string (⟨#[]⟩ : ByteArray), .int .i64 0, .int .i64 0]) (t := 36) ?hr ?_; (case hd => rfl); (case hg => rfl); (case hr => first | (go_simp; done) | (go_simp; rfl))
 intro gb317 hg w59 hbox hb
 have HS0_ := (hb.cell (World.block_lt_of_cell? _ _ (hHeld.1))).trans (hHeld.1)
 have HS4_ := (hb.cell (World.block_lt_of_cell? _ _ (hHeld.2.2.2.2.1))).trans (hHeld.2.2.2.2.1)
 have n0_ := Aside0.mk (Kd.R_below (Kd.R_elderB (by (with_reducible repeat (first | apply Kd.R_alloc | apply Kd.R_drewN | apply Kd.R_drew)); exact HO_8.out) gb317 (Nat.le_of_eq hg.symm)) hb)
 have n1_ := Aside0.mk (Kd.S_below (by (with_reducible repeat (first | apply Kd.S_alloc | apply Kd.S_drewN | apply Kd.S_drew)); exact HO_33.out) hb)
 have n2_ := Aside0.mk (Kd.R_below (by (with_reducible repeat (first | apply Kd.R_alloc | apply Kd.R_drewN | apply Kd.R_drew)); exact HL311_0.out) hb)
 have n3_ := Aside0.mk (Kd.C_below (by repeat (first | (with_reducible exact HR311_0.out) | (with_reducible refine Kd.C_alloc ?_ _) | (with_reducible refine Kd.C_drewN ?_ _) | (with_reducible refine Kd.C_drew ?_) | exact HR311_0.out)) hb)
 have n4_ := Aside0.mk (below_step (by repeat (first | (with_reducible first | exact HB.out | apply below_alloc | apply pw_below_drewN | apply below_drew1) | exact HB.out)) hb)
 have n5_ := Aside0.mk (hbox)
 have n6_ := Aside0.mk ((by rw [hg]; exact (below_size (by repeat (first | (with_reducible first | exact HB.out | apply below_alloc | apply pw_below_drewN | apply below_drew1) | exact HB.out))) : w.heap.size ≤ gb317))
 have n7_ := Aside0.mk ((by rw [hg]; exact (below_size (by repeat (first | (with_reducible first | exact HB.out | apply below_alloc | apply pw_below_drewN | apply below_drew1) | exact HB.out))) : w.heap.size ≤ gb317))
 clear HO_8
 clear HO_33
 clear HL311_0
 clear HR311_0
 clear HB
 have HO_8 := n0_
 have HO_33 := n1_
 have HL311_0 := n2_
 have HR311_0 := n3_
 have HB := n4_
 have BK317 := n5_
 have GW317 := n6_
 have GE317 := n7_
 clear n0_ n1_ n2_ n3_ n4_ n5_ n6_ n7_
 clear hb hbox hg
 refine hK.out _ _ ⟨HS0_, ((HB.out.cell (World.block_lt_of_cell? w _ hw313_0)).trans hw313_0), ((HB.out.cell (World.block_lt_of_cell? w _ hw313_1)).trans hw313_1), ((HB.out.cell (World.block_lt_of_cell? w _ hw313_2)).trans hw313_2), HS4_, ((HB.out.cell (World.block_lt_of_cell? w _ hw315_0)).trans hw315_0), ((HB.out.cell (World.block_lt_of_cell? w _ hw315_1)).trans hw315_1), ((HB.out.cell (World.block_lt_of_cell? w _ hw315_2)).trans hw315_2)⟩ (fun hHeld => ?_)
 clear hK K
 refine norm_ (a' := ?_) ?_ ?_
 rotate_left
 {
 show Act.put _ (some 12) _ = _
 simp only [Act.put, List.setIfInBounds_toArray, List.set_cons_zero, List.set_cons_succ, i64_w, i32_w]
 rfl
 }
 refine one_ (i := 12) (N := some 11) #[true, true, true, true, true, true, true, true, true, true, true, true, true, true, false, false] rfl rfl (one_of HT_.out (by kernel_rfl)) (by decide) (fun K hK => ?_)
 refine box_step ?hg (N := 11) ?hd (cs := #[.string (⟨#[]⟩ : ByteArray), .string (⟨#[]⟩ : ByteArray), .int .i64 0]) (t := 38) ?hr ?_; (case hd => rfl); (case hg => rfl); (case hr => first | (go_simp; done) | (go_simp; rfl))
 intro gb316 hg w60 hbox hb
 have HS0_ := (hb.cell (World.block_lt_of_cell? _ _ (hHeld.1))).trans (hHeld.1)
 have HS4_ := (hb.cell (World.block_lt_of_cell? _ _ (hHeld.2.2.2.2.1))).trans (hHeld.2.2.2.2.1)
 have n0_ := Aside0.mk (Kd.R_below (by (with_reducible repeat (first | apply Kd.R_alloc | apply Kd.R_drewN | apply Kd.R_drew)); exact HO_8.out) hb)
 have n1_ := Aside0.mk (Kd.S_below (by (with_reducible repeat (first | apply Kd.S_alloc | apply Kd.S_drewN | apply Kd.S_drew)); exact HO_33.out) hb)
 have n2_ := Aside0.mk (Kd.R_below (by (with_reducible repeat (first | apply Kd.R_alloc | apply Kd.R_drewN | apply Kd.R_drew)); exact HL311_0.out) hb)
 have n3_ := Aside0.mk (Kd.C_below (by repeat (first | (with_reducible exact HR311_0.out) | (with_reducible refine Kd.C_alloc ?_ _) | (with_reducible refine Kd.C_drewN ?_ _) | (with_reducible refine Kd.C_drew ?_) | exact HR311_0.out)) hb)
 have n4_ := Aside0.mk (blk_below (g := gb317) (o := .cells #[.string (⟨#[]⟩ : ByteArray), .int .i64 0, .int .i64 0] 36 (0, 0)) (by (with_reducible repeat (first | refine blk_drewN ?_ _ | refine blk_drew ?_ | refine blk_alloc ?_ _)); exact BK317.out) hb)
 have n5_ := Aside0.mk (below_step (by repeat (first | (with_reducible first | exact HB.out | apply below_alloc | apply pw_below_drewN | apply below_drew1 | refine below_set ?_ GE317.out) | exact HB.out)) hb)
 have n6_ := Aside0.mk (hbox)
 have n7_ := Aside0.mk ((by rw [hg]; exact (below_size (by repeat (first | (with_reducible first | exact HB.out | apply below_alloc | apply pw_below_drewN | apply below_drew1 | refine below_set ?_ GE317.out) | exact HB.out))) : w.heap.size ≤ gb316))
 have n8_ := Aside0.mk ((by rw [hg]; exact (below_size (by repeat (first | (with_reducible first | exact HB.out | apply below_alloc | apply pw_below_drewN | apply below_drew1 | refine below_set ?_ GE317.out) | exact HB.out))) : w.heap.size ≤ gb316))
 have n9_ := Aside0.mk ((by rw [hg]; exact Nat.ne_of_lt (blk_lt (g := gb317) (o := .cells #[.string (⟨#[]⟩ : ByteArray), .int .i64 0, .int .i64 0] 36 (0, 0)) (by (with_reducible repeat (first | refine blk_drewN ?_ _ | refine blk_drew ?_ | refine blk_alloc ?_ _)); exact BK317.out)) : gb317 ≠ gb316))
 have n10_ := Aside0.mk ((by rw [hg]; exact Nat.ne_of_gt (blk_lt (g := gb317) (o := .cells #[.string (⟨#[]⟩ : ByteArray), .int .i64 0, .int .i64 0] 36 (0, 0)) (by (with_reducible repeat (first | refine blk_drewN ?_ _ | refine blk_drew ?_ | refine blk_alloc ?_ _)); exact BK317.out)) : gb316 ≠ gb317))
 clear HO_8
 clear HO_33
 clear HL311_0
 clear HR311_0
 clear BK317
 clear HB
 have HO_8 := n0_
 have HO_33 := n1_
 have HL311_0 := n2_
 have HR311_0 := n3_
 have BK317 := n4_
 have HB := n5_
 have BK316 := n6_
 have GW316 := n7_
 have GE316 := n8_
 have NB317_316 := n9_
 have NB316_317 := n10_
 clear n0_ n1_ n2_ n3_ n4_ n5_ n6_ n7_ n8_ n9_ n10_
 clear hb hbox hg
 refine hK.out _ _ ⟨HS0_, ((HB.out.cell (World.block_lt_of_cell? w _ hw313_0)).trans hw313_0), ((HB.out.cell (World.block_lt_of_cell? w _ hw313_1)).trans hw313_1), ((HB.out.cell (World.block_lt_of_cell? w _ hw313_2)).trans hw313_2), HS4_, ((HB.out.cell (World.block_lt_of_cell? w _ hw315_0)).trans hw315_0), ((HB.out.cell (World.block_lt_of_cell? w _ hw315_1)).trans hw315_1), ((HB.out.cell (World.block_lt_of_cell? w _ hw315_2)).trans hw315_2)⟩ (fun hHeld => ?_)
 clear hK K
 refine norm_ (a' := ?_) ?_ ?_
 rotate_left
 {
 show Act.put _ (some 11) _ = _
 simp only [Act.put, List.setIfInBounds_toArray, List.set_cons_zero, List.set_cons_succ, i64_w, i32_w]
 rfl
 }
 exact norm_ (by simp only [putAll, Act.put, List.setIfInBounds_toArray, List.set_cons_zero, List.set_cons_succ]) (hCont (gb316, gb317) _ ⟨hHeld, (by (with_reducible repeat (first | apply Kd.R_alloc | apply Kd.R_drewN | apply Kd.R_drew)); exact Kd.R_mono HL311_0.out (fun _ hk => hk.2)), (by (with_reducible repeat (first | apply Kd.S_alloc | apply Kd.S_drewN | apply Kd.S_drew)); exact HO_33.out), (by (with_reducible repeat (first | apply Kd.R_alloc | apply Kd.R_drewN | apply Kd.R_drew)); exact Kd.R_mono HO_8.out (fun _ hk => hk.2)), (by (with_reducible repeat (first | refine blk_drewN ?_ _ | refine blk_drew ?_ | refine blk_alloc ?_ _)); exact BK316.out), (by (with_reducible repeat (first | refine blk_drewN ?_ _ | refine blk_drew ?_ | refine blk_alloc ?_ _)); exact BK317.out), GW316.out, GE316.out, NB317_316.out, NB316_317.out, GW317.out, GE317.out, (by repeat (first | (with_reducible first | exact HB.out | apply below_alloc | apply pw_below_drewN | apply below_drew1 | refine below_set ?_ GE317.out | refine below_set ?_ GE316.out) | exact HB.out))⟩)
 }
 }
 rintro ⟨gb316, gb317⟩ w61 ⟨hS_, h0_, h1_, h2_, h3_, h4_, h5_, h6_, h7_, h8_, h9_, h10_, h11_⟩
 have n0_ : Aside0 (Kd.R (Kd.int .i64) 2 w61 w.heap.size (fun k_ => some k_ ≠ (.slice (some ad311) t308.length co18 : Value).ownBlock) (.slice (some ad312) (rd_L5 t308 x35_2).length c311_0) (rd_L5 t308 x35_2)) := ⟨h0_⟩
 have n1_ : Aside0 (Kd.S (Kd.slice 2 (Kd.int .i64)) 34 w61 w.heap.size (fun _ => True) (.slice (some ad311) t308.length co18) t308) := ⟨h1_⟩
 have n2_ : Aside0 (Kd.R k36 36 w61 w.heap.size (fun k_ => k_ ≠ gb317) u8 x8_2) := ⟨h2_⟩
 have n3_ : Aside0 (w61.heap[gb316]? = some (.cells #[.string (⟨#[]⟩ : ByteArray), .string (⟨#[]⟩ : ByteArray), .int .i64 0] 38 (0, 0))) := ⟨h3_⟩
 have n4_ : Aside0 (w61.heap[gb317]? = some (.cells #[.string (⟨#[]⟩ : ByteArray), .int .i64 0, .int .i64 0] 36 (0, 0))) := ⟨h4_⟩
 have n5_ : Aside0 (w.heap.size ≤ gb316) := ⟨h5_⟩
 have n6_ : Aside0 (w.heap.size ≤ gb316) := ⟨h6_⟩
 have n7_ : Aside0 (gb317 ≠ gb316) := ⟨h7_⟩
 have n8_ : Aside0 (gb316 ≠ gb317) := ⟨h8_⟩
 have n9_ : Aside0 (w.heap.size ≤ gb317) := ⟨h9_⟩
 have n10_ : Aside0 (w.heap.size ≤ gb317) := ⟨h10_⟩
 have n11_ : Aside0 (Below w.heap.size w w61) := ⟨h11_⟩
 clear HO_8
 clear HO_33
 clear HL311_0
 clear HR311_0
 clear HB
 clear h0_ h1_ h2_ h3_ h4_ h5_ h6_ h7_ h8_ h9_ h10_ h11_
 have HL311_0 := n0_
 have HO_33 := n1_
 have HO_8 := n2_
 have BK316 := n3_
 have BK317 := n4_
 have GW316 := n5_
 have GE316 := n6_
 have NB317_316 := n7_
 have NB316_317 := n8_
 have GW317 := n9_
 have GE317 := n10_
 have HB := n11_
 clear n0_ n1_ n2_ n3_ n4_ n5_ n6_ n7_ n8_ n9_ n10_ n11_
 have hHeld : w61.cell? ad312 = some (.int .i64 (rd (rd_L5 t308 x35_2) 0)) ∧ w61.cell? (ad313.add (((rd (rd_L5 t308 x35_2) 0)).toNat * 3)) = some (.string ((rd_T38 l1 (rd (rd_L5 t308 x35_2) 0)).f0)) ∧ w61.cell? ⟨(ad313.add (((rd (rd_L5 t308 x35_2) 0)).toNat * 3)).block, (ad313.add (((rd (rd_L5 t308 x35_2) 0)).toNat * 3)).off + 1, none⟩ = some (.string ((rd_T38 l1 (rd (rd_L5 t308 x35_2) 0)).f1)) ∧ w61.cell? ⟨(ad313.add (((rd (rd_L5 t308 x35_2) 0)).toNat * 3)).block, (ad313.add (((rd (rd_L5 t308 x35_2) 0)).toNat * 3)).off + 2, none⟩ = some (.int .i64 ((rd_T38 l1 (rd (rd_L5 t308 x35_2) 0)).f2)) ∧ w61.cell? ⟨ad312.block, ad312.off + 1, none⟩ = some (.int .i64 (rd (rd_L5 t308 x35_2) 1)) ∧ w61.cell? (ad315.add (((rd (rd_L5 t308 x35_2) 1)).toNat * 3)) = some (.string ((rd_T36 l0 (rd (rd_L5 t308 x35_2) 1)).f0)) ∧ w61.cell? ⟨(ad315.add (((rd (rd_L5 t308 x35_2) 1)).toNat * 3)).block, (ad315.add (((rd (rd_L5 t308 x35_2) 1)).toNat * 3)).off + 1, none⟩ = some (.int .i64 ((rd_T36 l0 (rd (rd_L5 t308 x35_2) 1)).f1)) ∧ w61.cell? ⟨(ad315.add (((rd (rd_L5 t308 x35_2) 1)).toNat * 3)).block, (ad315.add (((rd (rd_L5 t308 x35_2) 1)).toNat * 3)).off + 2, none⟩ = some (.int .i64 ((rd_T36 l0 (rd (rd_L5 t308 x35_2) 1)).f2)) := hS_
 refine norm_ (a' := ?_) ?_ ?_
 rotate_left
 {
 simp only [putAll, Act.put, List.setIfInBounds_toArray, List.set_cons_zero, List.set_cons_succ]
 rfl
 }
 refine one_ (i := 14) (N := none) #[true, true, true, true, true, true, true, true, true, true, true, true, true, true, true, false] rfl rfl (one_of HT_.out (by kernel_rfl)) (by decide) (fun K hK => ?_)
 have hs62 : w61.cell? ⟨gb316, 0, none⟩ = some (.string (⟨#[]⟩ : ByteArray)) := (blk_cell BK316.out 0).trans rfl
 have hfs62 := blk_frozen BK316.out 0
 have hns62_1 := NB317_316.out
 have hms62_1 := NB316_317.out
 have hs63 : w61.cell? ⟨gb316, 1, none⟩ = some (.string (⟨#[]⟩ : ByteArray)) := (blk_cell BK316.out 1).trans rfl
 have hfs63 := blk_frozen BK316.out 1
 have hns63_1 := NB317_316.out
 have hms63_1 := NB316_317.out
 have hs64 : w61.cell? ⟨gb316, 2, none⟩ = some (.int .i64 0) := (blk_cell BK316.out 2).trans rfl
 have hfs64 := blk_frozen BK316.out 2
 have hns64_1 := NB317_316.out
 have hms64_1 := NB316_317.out
 refine skip_ (w1 := ?_) (by rfl) rfl ?_ ?_
 rotate_left
 {
 go_simp
 rfl
 }
 refine hK.out _ _ ⟨(by (iterate 3 (refine (cell_far (p := ⟨gb316, _, none⟩) (by first | exact Kd.own_blk (Kd.R_ne HL311_0.out BK316.out (by decide)) | ((first | rw [add_block] | (show (Addr.add _ _).block ≠ _; rw [add_block]) | dsimp only); exact Kd.own_blk (Kd.R_ne HL311_0.out BK316.out (by decide)))) _).trans ?_)); exact hHeld.1), (by (iterate 3 (refine (cell_far (p := ⟨gb316, _, none⟩) (by first | exact Nat.ne_of_lt (Nat.lt_of_lt_of_le (by have := World.block_lt_of_cell? _ _ hw313_0; first | rwa [add_block] at this | exact this) GW316.out) | ((first | rw [add_block] | (show (Addr.add _ _).block ≠ _; rw [add_block]) | dsimp only); exact Nat.ne_of_lt (Nat.lt_of_lt_of_le (by have := World.block_lt_of_cell? _ _ hw313_0; first | rwa [add_block] at this | exact this) GW316.out))) _).trans ?_)); exact hHeld.2.1), (by (iterate 3 (refine (cell_far (p := ⟨gb316, _, none⟩) (by first | exact Nat.ne_of_lt (Nat.lt_of_lt_of_le (by have := World.block_lt_of_cell? _ _ hw313_1; first | rwa [add_block] at this | exact this) GW316.out) | ((first | rw [add_block] | (show (Addr.add _ _).block ≠ _; rw [add_block]) | dsimp only); exact Nat.ne_of_lt (Nat.lt_of_lt_of_le (by have := World.block_lt_of_cell? _ _ hw313_1; first | rwa [add_block] at this | exact this) GW316.out))) _).trans ?_)); exact hHeld.2.2.1), (by (iterate 3 (refine (cell_far (p := ⟨gb316, _, none⟩) (by first | exact Nat.ne_of_lt (Nat.lt_of_lt_of_le (by have := World.block_lt_of_cell? _ _ hw313_2; first | rwa [add_block] at this | exact this) GW316.out) | ((first | rw [add_block] | (show (Addr.add _ _).block ≠ _; rw [add_block]) | dsimp only); exact Nat.ne_of_lt (Nat.lt_of_lt_of_le (by have := World.block_lt_of_cell? _ _ hw313_2; first | rwa [add_block] at this | exact this) GW316.out))) _).trans ?_)); exact hHeld.2.2.2.1), (by (iterate 3 (refine (cell_far (p := ⟨gb316, _, none⟩) (by first | exact Kd.own_blk (Kd.R_ne HL311_0.out BK316.out (by decide)) | ((first | rw [add_block] | (show (Addr.add _ _).block ≠ _; rw [add_block]) | dsimp only); exact Kd.own_blk (Kd.R_ne HL311_0.out BK316.out (by decide)))) _).trans ?_)); exact hHeld.2.2.2.2.1), (by (iterate 3 (refine (cell_far (p := ⟨gb316, _, none⟩) (by first | exact Nat.ne_of_lt (Nat.lt_of_lt_of_le (by have := World.block_lt_of_cell? _ _ hw315_0; first | rwa [add_block] at this | exact this) GW316.out) | ((first | rw [add_block] | (show (Addr.add _ _).block ≠ _; rw [add_block]) | dsimp only); exact Nat.ne_of_lt (Nat.lt_of_lt_of_le (by have := World.block_lt_of_cell? _ _ hw315_0; first | rwa [add_block] at this | exact this) GW316.out))) _).trans ?_)); exact hHeld.2.2.2.2.2.1), (by (iterate 3 (refine (cell_far (p := ⟨gb316, _, none⟩) (by first | exact Nat.ne_of_lt (Nat.lt_of_lt_of_le (by have := World.block_lt_of_cell? _ _ hw315_1; first | rwa [add_block] at this | exact this) GW316.out) | ((first | rw [add_block] | (show (Addr.add _ _).block ≠ _; rw [add_block]) | dsimp only); exact Nat.ne_of_lt (Nat.lt_of_lt_of_le (by have := World.block_lt_of_cell? _ _ hw315_1; first | rwa [add_block] at this | exact this) GW316.out))) _).trans ?_)); exact hHeld.2.2.2.2.2.2.1), (by (iterate 3 (refine (cell_far (p := ⟨gb316, _, none⟩) (by first | exact Nat.ne_of_lt (Nat.lt_of_lt_of_le (by have := World.block_lt_of_cell? _ _ hw315_2; first | rwa [add_block] at this | exact this) GW316.out) | ((first | rw [add_block] | (show (Addr.add _ _).block ≠ _; rw [add_block]) | dsimp only); exact Nat.ne_of_lt (Nat.lt_of_lt_of_le (by have := World.block_lt_of_cell? _ _ hw315_2; first | rwa [add_block] at this | exact this) GW316.out))) _).trans ?_)); exact hHeld.2.2.2.2.2.2.2)⟩ (fun hHeld => ?_)
 clear hK K
 refine one_ (i := 15) (N := none) #[true, true, true, true, true, true, true, true, true, true, true, true, true, true, true, true] rfl rfl (one_of HT_.out (by kernel_rfl)) (by decide) (fun K hK => ?_)
 have hs65 : w61.cell? ⟨gb317, 0, none⟩ = some (.string (⟨#[]⟩ : ByteArray)) := (blk_cell BK317.out 0).trans rfl
 have hfs65 := blk_frozen BK317.out 0
 have hns65_0 := NB316_317.out
 have hms65_0 := NB317_316.out
 have hs66 : w61.cell? ⟨gb317, 1, none⟩ = some (.int .i64 0) := (blk_cell BK317.out 1).trans rfl
 have hfs66 := blk_frozen BK317.out 1
 have hns66_0 := NB316_317.out
 have hms66_0 := NB317_316.out
 have hs67 : w61.cell? ⟨gb317, 2, none⟩ = some (.int .i64 0) := (blk_cell BK317.out 2).trans rfl
 have hfs67 := blk_frozen BK317.out 2
 have hns67_0 := NB316_317.out
 have hms67_0 := NB317_316.out
 refine skip_ (w1 := ?_) (by rfl) rfl ?_ ?_
 rotate_left
 {
 go_simp
 rfl
 }
 refine hK.out _ _ ⟨(by (iterate 3 (refine (cell_far (p := ⟨gb317, _, none⟩) (by first | exact Kd.own_blk (Kd.R_ne HL311_0.out BK317.out (by decide)) | ((first | rw [add_block] | (show (Addr.add _ _).block ≠ _; rw [add_block]) | dsimp only); exact Kd.own_blk (Kd.R_ne HL311_0.out BK317.out (by decide)))) _).trans ?_)); exact hHeld.1), (by (iterate 3 (refine (cell_far (p := ⟨gb317, _, none⟩) (by first | exact Nat.ne_of_lt (Nat.lt_of_lt_of_le (by have := World.block_lt_of_cell? _ _ hw313_0; first | rwa [add_block] at this | exact this) GW317.out) | ((first | rw [add_block] | (show (Addr.add _ _).block ≠ _; rw [add_block]) | dsimp only); exact Nat.ne_of_lt (Nat.lt_of_lt_of_le (by have := World.block_lt_of_cell? _ _ hw313_0; first | rwa [add_block] at this | exact this) GW317.out))) _).trans ?_)); exact hHeld.2.1), (by (iterate 3 (refine (cell_far (p := ⟨gb317, _, none⟩) (by first | exact Nat.ne_of_lt (Nat.lt_of_lt_of_le (by have := World.block_lt_of_cell? _ _ hw313_1; first | rwa [add_block] at this | exact this) GW317.out) | ((first | rw [add_block] | (show (Addr.add _ _).block ≠ _; rw [add_block]) | dsimp only); exact Nat.ne_of_lt (Nat.lt_of_lt_of_le (by have := World.block_lt_of_cell? _ _ hw313_1; first | rwa [add_block] at this | exact this) GW317.out))) _).trans ?_)); exact hHeld.2.2.1), (by (iterate 3 (refine (cell_far (p := ⟨gb317, _, none⟩) (by first | exact Nat.ne_of_lt (Nat.lt_of_lt_of_le (by have := World.block_lt_of_cell? _ _ hw313_2; first | rwa [add_block] at this | exact this) GW317.out) | ((first | rw [add_block] | (show (Addr.add _ _).block ≠ _; rw [add_block]) | dsimp only); exact Nat.ne_of_lt (Nat.lt_of_lt_of_le (by have := World.block_lt_of_cell? _ _ hw313_2; first | rwa [add_block] at this | exact this) GW317.out))) _).trans ?_)); exact hHeld.2.2.2.1), (by (iterate 3 (refine (cell_far (p := ⟨gb317, _, none⟩) (by first | exact Kd.own_blk (Kd.R_ne HL311_0.out BK317.out (by decide)) | ((first | rw [add_block] | (show (Addr.add _ _).block ≠ _; rw [add_block]) | dsimp only); exact Kd.own_blk (Kd.R_ne HL311_0.out BK317.out (by decide)))) _).trans ?_)); exact hHeld.2.2.2.2.1), (by (iterate 3 (refine (cell_far (p := ⟨gb317, _, none⟩) (by first | exact Nat.ne_of_lt (Nat.lt_of_lt_of_le (by have := World.block_lt_of_cell? _ _ hw315_0; first | rwa [add_block] at this | exact this) GW317.out) | ((first | rw [add_block] | (show (Addr.add _ _).block ≠ _; rw [add_block]) | dsimp only); exact Nat.ne_of_lt (Nat.lt_of_lt_of_le (by have := World.block_lt_of_cell? _ _ hw315_0; first | rwa [add_block] at this | exact this) GW317.out))) _).trans ?_)); exact hHeld.2.2.2.2.2.1), (by (iterate 3 (refine (cell_far (p := ⟨gb317, _, none⟩) (by first | exact Nat.ne_of_lt (Nat.lt_of_lt_of_le (by have := World.block_lt_of_cell? _ _ hw315_1; first | rwa [add_block] at this | exact this) GW317.out) | ((first | rw [add_block] | (show (Addr.add _ _).block ≠ _; rw [add_block]) | dsimp only); exact Nat.ne_of_lt (Nat.lt_of_lt_of_le (by have := World.block_lt_of_cell? _ _ hw315_1; first | rwa [add_block] at this | exact this) GW317.out))) _).trans ?_)); exact hHeld.2.2.2.2.2.2.1), (by (iterate 3 (refine (cell_far (p := ⟨gb317, _, none⟩) (by first | exact Nat.ne_of_lt (Nat.lt_of_lt_of_le (by have := World.block_lt_of_cell? _ _ hw315_2; first | rwa [add_block] at this | exact this) GW317.out) | ((first | rw [add_block] | (show (Addr.add _ _).block ≠ _; rw [add_block]) | dsimp only); exact Nat.ne_of_lt (Nat.lt_of_lt_of_le (by have := World.block_lt_of_cell? _ _ hw315_2; first | rwa [add_block] at this | exact this) GW317.out))) _).trans ?_)); exact hHeld.2.2.2.2.2.2.2)⟩ (fun hHeld => ?_)
 clear hK K
 refine done_ (done_of HT_.out (by kernel_rfl)) ?_
 try go_wp2
 have n0_ : Aside0 (Kd.R k36 36 ((((((w61.setCell ⟨gb316, 0, none⟩ (.string ((rd_T38 l1 (rd (rd_L5 t308 x35_2) 0)).f0))).setCell ⟨gb316, 1, none⟩ (.string ((rd_T38 l1 (rd (rd_L5 t308 x35_2) 0)).f1))).setCell ⟨gb316, 2, none⟩ (.int .i64 ((rd_T38 l1 (rd (rd_L5 t308 x35_2) 0)).f2))).setCell ⟨gb317, 0, none⟩ (.string ((rd_T36 l0 (rd (rd_L5 t308 x35_2) 1)).f0))).setCell ⟨gb317, 1, none⟩ (.int .i64 ((rd_T36 l0 (rd (rd_L5 t308 x35_2) 1)).f1))).setCell ⟨gb317, 2, none⟩ (.int .i64 ((rd_T36 l0 (rd (rd_L5 t308 x35_2) 1)).f2))) w.heap.size (fun k_ => k_ ≠ gb317) u8 x8_2) := ⟨by (with_reducible repeat (first | apply Kd.R_alloc | apply Kd.R_drewN | apply Kd.R_drew)); exact Kd.R_mono (Kd.R_far (p := ⟨gb317, 2, none⟩) (Kd.R_far (p := ⟨gb317, 1, none⟩) (Kd.R_far (p := ⟨gb317, 0, none⟩) (Kd.R_far (p := ⟨gb316, 2, none⟩) (Kd.R_far (p := ⟨gb316, 1, none⟩) (Kd.R_far (p := ⟨gb316, 0, none⟩) (Kd.R_mono (Kd.R_types HO_8.out BK316.out (by decide)) (fun k_ hk => (⟨hk, hk.1⟩ : _ ∧ k_ ≠ gb317))) (fun _ hk => hk.1.2) (.string ((rd_T38 l1 (rd (rd_L5 t308 x35_2) 0)).f0))) (fun _ hk => hk.1.2) (.string ((rd_T38 l1 (rd (rd_L5 t308 x35_2) 0)).f1))) (fun _ hk => hk.1.2) (.int .i64 ((rd_T38 l1 (rd (rd_L5 t308 x35_2) 0)).f2))) (fun _ hk => hk.2) (.string ((rd_T36 l0 (rd (rd_L5 t308 x35_2) 1)).f0))) (fun _ hk => hk.2) (.int .i64 ((rd_T36 l0 (rd (rd_L5 t308 x35_2) 1)).f1))) (fun _ hk => hk.2) (.int .i64 ((rd_T36 l0 (rd (rd_L5 t308 x35_2) 1)).f2))) (fun _ hk => hk.1.1)⟩
 have n1_ : Aside0 (Kd.S (Kd.slice 2 (Kd.int .i64)) 34 ((((((w61.setCell ⟨gb316, 0, none⟩ (.string ((rd_T38 l1 (rd (rd_L5 t308 x35_2) 0)).f0))).setCell ⟨gb316, 1, none⟩ (.string ((rd_T38 l1 (rd (rd_L5 t308 x35_2) 0)).f1))).setCell ⟨gb316, 2, none⟩ (.int .i64 ((rd_T38 l1 (rd (rd_L5 t308 x35_2) 0)).f2))).setCell ⟨gb317, 0, none⟩ (.string ((rd_T36 l0 (rd (rd_L5 t308 x35_2) 1)).f0))).setCell ⟨gb317, 1, none⟩ (.int .i64 ((rd_T36 l0 (rd (rd_L5 t308 x35_2) 1)).f1))).setCell ⟨gb317, 2, none⟩ (.int .i64 ((rd_T36 l0 (rd (rd_L5 t308 x35_2) 1)).f2))) w.heap.size (fun _ => True) (.slice (some ad311) t308.length co18) t308) := ⟨by (with_reducible repeat (first | apply Kd.S_alloc | apply Kd.S_drewN | apply Kd.S_drew)); exact Kd.S_mono (Kd.S_far (p := ⟨gb317, 2, none⟩) (Kd.S_far (p := ⟨gb317, 1, none⟩) (Kd.S_far (p := ⟨gb317, 0, none⟩) (Kd.S_far (p := ⟨gb316, 2, none⟩) (Kd.S_far (p := ⟨gb316, 1, none⟩) (Kd.S_far (p := ⟨gb316, 0, none⟩) (Kd.S_types (Kd.S_types HO_33.out BK316.out (by decide)) BK317.out (by decide)) (fun _ hk => hk.1.2) (.string ((rd_T38 l1 (rd (rd_L5 t308 x35_2) 0)).f0))) (fun _ hk => hk.1.2) (.string ((rd_T38 l1 (rd (rd_L5 t308 x35_2) 0)).f1))) (fun _ hk => hk.1.2) (.int .i64 ((rd_T38 l1 (rd (rd_L5 t308 x35_2) 0)).f2))) (fun _ hk => hk.2) (.string ((rd_T36 l0 (rd (rd_L5 t308 x35_2) 1)).f0))) (fun _ hk => hk.2) (.int .i64 ((rd_T36 l0 (rd (rd_L5 t308 x35_2) 1)).f1))) (fun _ hk => hk.2) (.int .i64 ((rd_T36 l0 (rd (rd_L5 t308 x35_2) 1)).f2))) (fun _ hk => trivial)⟩
 have n2_ : Aside0 (Kd.R (Kd.int .i64) 2 ((((((w61.setCell ⟨gb316, 0, none⟩ (.string ((rd_T38 l1 (rd (rd_L5 t308 x35_2) 0)).f0))).setCell ⟨gb316, 1, none⟩ (.string ((rd_T38 l1 (rd (rd_L5 t308 x35_2) 0)).f1))).setCell ⟨gb316, 2, none⟩ (.int .i64 ((rd_T38 l1 (rd (rd_L5 t308 x35_2) 0)).f2))).setCell ⟨gb317, 0, none⟩ (.string ((rd_T36 l0 (rd (rd_L5 t308 x35_2) 1)).f0))).setCell ⟨gb317, 1, none⟩ (.int .i64 ((rd_T36 l0 (rd (rd_L5 t308 x35_2) 1)).f1))).setCell ⟨gb317, 2, none⟩ (.int .i64 ((rd_T36 l0 (rd (rd_L5 t308 x35_2) 1)).f2))) w.heap.size (fun k_ => some k_ ≠ (.slice (some ad311) t308.length co18 : Value).ownBlock) (.slice (some ad312) (rd_L5 t308 x35_2).length c311_0) (rd_L5 t308 x35_2)) := ⟨by (with_reducible repeat (first | apply Kd.R_alloc | apply Kd.R_drewN | apply Kd.R_drew)); exact Kd.R_mono (Kd.R_far (p := ⟨gb317, 2, none⟩) (Kd.R_far (p := ⟨gb317, 1, none⟩) (Kd.R_far (p := ⟨gb317, 0, none⟩) (Kd.R_far (p := ⟨gb316, 2, none⟩) (Kd.R_far (p := ⟨gb316, 1, none⟩) (Kd.R_far (p := ⟨gb316, 0, none⟩) (Kd.R_types (Kd.R_types HL311_0.out BK316.out (by decide)) BK317.out (by decide)) (fun _ hk => hk.1.2) (.string ((rd_T38 l1 (rd (rd_L5 t308 x35_2) 0)).f0))) (fun _ hk => hk.1.2) (.string ((rd_T38 l1 (rd (rd_L5 t308 x35_2) 0)).f1))) (fun _ hk => hk.1.2) (.int .i64 ((rd_T38 l1 (rd (rd_L5 t308 x35_2) 0)).f2))) (fun _ hk => hk.2) (.string ((rd_T36 l0 (rd (rd_L5 t308 x35_2) 1)).f0))) (fun _ hk => hk.2) (.int .i64 ((rd_T36 l0 (rd (rd_L5 t308 x35_2) 1)).f1))) (fun _ hk => hk.2) (.int .i64 ((rd_T36 l0 (rd (rd_L5 t308 x35_2) 1)).f2))) (fun _ hk => hk.1.1)⟩
 have n3_ : Aside0 (((((((w61.setCell ⟨gb316, 0, none⟩ (.string ((rd_T38 l1 (rd (rd_L5 t308 x35_2) 0)).f0))).setCell ⟨gb316, 1, none⟩ (.string ((rd_T38 l1 (rd (rd_L5 t308 x35_2) 0)).f1))).setCell ⟨gb316, 2, none⟩ (.int .i64 ((rd_T38 l1 (rd (rd_L5 t308 x35_2) 0)).f2))).setCell ⟨gb317, 0, none⟩ (.string ((rd_T36 l0 (rd (rd_L5 t308 x35_2) 1)).f0))).setCell ⟨gb317, 1, none⟩ (.int .i64 ((rd_T36 l0 (rd (rd_L5 t308 x35_2) 1)).f1))).setCell ⟨gb317, 2, none⟩ (.int .i64 ((rd_T36 l0 (rd (rd_L5 t308 x35_2) 1)).f2))).heap[gb316]? = some (.cells #[.string ((rd_T38 l1 (rd (rd_L5 t308 x35_2) 0)).f0), .string ((rd_T38 l1 (rd (rd_L5 t308 x35_2) 0)).f1), .int .i64 ((rd_T38 l1 (rd (rd_L5 t308 x35_2) 0)).f2)] 38 (0, 0))) := ⟨by (with_reducible repeat (first | refine blk_drewN ?_ _ | refine blk_drew ?_ | refine blk_alloc ?_ _)); refine blk_far ?_ NB316_317.out _; (with_reducible repeat (first | refine blk_drewN ?_ _ | refine blk_drew ?_ | refine blk_alloc ?_ _)); refine blk_far ?_ NB316_317.out _; (with_reducible repeat (first | refine blk_drewN ?_ _ | refine blk_drew ?_ | refine blk_alloc ?_ _)); refine blk_far ?_ NB316_317.out _; (with_reducible repeat (first | refine blk_drewN ?_ _ | refine blk_drew ?_ | refine blk_alloc ?_ _)); refine blk_put (cs := #[.string ((rd_T38 l1 (rd (rd_L5 t308 x35_2) 0)).f0), .string ((rd_T38 l1 (rd (rd_L5 t308 x35_2) 0)).f1), .int .i64 0]) ?_ 2 _ rfl; (with_reducible repeat (first | refine blk_drewN ?_ _ | refine blk_drew ?_ | refine blk_alloc ?_ _)); refine blk_put (cs := #[.string ((rd_T38 l1 (rd (rd_L5 t308 x35_2) 0)).f0), .string (⟨#[]⟩ : ByteArray), .int .i64 0]) ?_ 1 _ rfl; (with_reducible repeat (first | refine blk_drewN ?_ _ | refine blk_drew ?_ | refine blk_alloc ?_ _)); refine blk_put (cs := #[.string (⟨#[]⟩ : ByteArray), .string (⟨#[]⟩ : ByteArray), .int .i64 0]) ?_ 0 _ rfl; (with_reducible repeat (first | refine blk_drewN ?_ _ | refine blk_drew ?_ | refine blk_alloc ?_ _)); exact BK316.out⟩
 have n4_ : Aside0 (((((((w61.setCell ⟨gb316, 0, none⟩ (.string ((rd_T38 l1 (rd (rd_L5 t308 x35_2) 0)).f0))).setCell ⟨gb316, 1, none⟩ (.string ((rd_T38 l1 (rd (rd_L5 t308 x35_2) 0)).f1))).setCell ⟨gb316, 2, none⟩ (.int .i64 ((rd_T38 l1 (rd (rd_L5 t308 x35_2) 0)).f2))).setCell ⟨gb317, 0, none⟩ (.string ((rd_T36 l0 (rd (rd_L5 t308 x35_2) 1)).f0))).setCell ⟨gb317, 1, none⟩ (.int .i64 ((rd_T36 l0 (rd (rd_L5 t308 x35_2) 1)).f1))).setCell ⟨gb317, 2, none⟩ (.int .i64 ((rd_T36 l0 (rd (rd_L5 t308 x35_2) 1)).f2))).heap[gb317]? = some (.cells #[.string ((rd_T36 l0 (rd (rd_L5 t308 x35_2) 1)).f0), .int .i64 ((rd_T36 l0 (rd (rd_L5 t308 x35_2) 1)).f1), .int .i64 ((rd_T36 l0 (rd (rd_L5 t308 x35_2) 1)).f2)] 36 (0, 0))) := ⟨by (with_reducible repeat (first | refine blk_drewN ?_ _ | refine blk_drew ?_ | refine blk_alloc ?_ _)); refine blk_put (cs := #[.string ((rd_T36 l0 (rd (rd_L5 t308 x35_2) 1)).f0), .int .i64 ((rd_T36 l0 (rd (rd_L5 t308 x35_2) 1)).f1), .int .i64 0]) ?_ 2 _ rfl; (with_reducible repeat (first | refine blk_drewN ?_ _ | refine blk_drew ?_ | refine blk_alloc ?_ _)); refine blk_put (cs := #[.string ((rd_T36 l0 (rd (rd_L5 t308 x35_2) 1)).f0), .int .i64 0, .int .i64 0]) ?_ 1 _ rfl; (with_reducible repeat (first | refine blk_drewN ?_ _ | refine blk_drew ?_ | refine blk_alloc ?_ _)); refine blk_put (cs := #[.string (⟨#[]⟩ : ByteArray), .int .i64 0, .int .i64 0]) ?_ 0 _ rfl; (with_reducible repeat (first | refine blk_drewN ?_ _ | refine blk_drew ?_ | refine blk_alloc ?_ _)); refine blk_far ?_ NB317_316.out _; (with_reducible repeat (first | refine blk_drewN ?_ _ | refine blk_drew ?_ | refine blk_alloc ?_ _)); refine blk_far ?_ NB317_316.out _; (with_reducible repeat (first | refine blk_drewN ?_ _ | refine blk_drew ?_ | refine blk_alloc ?_ _)); refine blk_far ?_ NB317_316.out _; (with_reducible repeat (first | refine blk_drewN ?_ _ | refine blk_drew ?_ | refine blk_alloc ?_ _)); exact BK317.out⟩
 have n5_ : Aside0 (Below w.heap.size w ((((((w61.setCell ⟨gb316, 0, none⟩ (.string ((rd_T38 l1 (rd (rd_L5 t308 x35_2) 0)).f0))).setCell ⟨gb316, 1, none⟩ (.string ((rd_T38 l1 (rd (rd_L5 t308 x35_2) 0)).f1))).setCell ⟨gb316, 2, none⟩ (.int .i64 ((rd_T38 l1 (rd (rd_L5 t308 x35_2) 0)).f2))).setCell ⟨gb317, 0, none⟩ (.string ((rd_T36 l0 (rd (rd_L5 t308 x35_2) 1)).f0))).setCell ⟨gb317, 1, none⟩ (.int .i64 ((rd_T36 l0 (rd (rd_L5 t308 x35_2) 1)).f1))).setCell ⟨gb317, 2, none⟩ (.int .i64 ((rd_T36 l0 (rd (rd_L5 t308 x35_2) 1)).f2)))) := ⟨by repeat (first | (with_reducible first | exact HB.out | apply below_alloc | apply pw_below_drewN | apply below_drew1 | refine below_set ?_ GE316.out | refine below_set ?_ GE317.out) | exact HB.out)⟩
 (try clear HO_8)
 (try clear HO_33)
 (try clear HL311_0)
 (try clear BK316)
 (try clear BK317)
 (try clear HB)
 generalize ((((((w61.setCell ⟨gb316, 0, none⟩ (.string ((rd_T38 l1 (rd (rd_L5 t308 x35_2) 0)).f0))).setCell ⟨gb316, 1, none⟩ (.string ((rd_T38 l1 (rd (rd_L5 t308 x35_2) 0)).f1))).setCell ⟨gb316, 2, none⟩ (.int .i64 ((rd_T38 l1 (rd (rd_L5 t308 x35_2) 0)).f2))).setCell ⟨gb317, 0, none⟩ (.string ((rd_T36 l0 (rd (rd_L5 t308 x35_2) 1)).f0))).setCell ⟨gb317, 1, none⟩ (.int .i64 ((rd_T36 l0 (rd (rd_L5 t308 x35_2) 1)).f1))).setCell ⟨gb317, 2, none⟩ (.int .i64 ((rd_T36 l0 (rd (rd_L5 t308 x35_2) 1)).f2))) = w68 at n0_ n1_ n2_ n3_ n4_ n5_ ⊢
 have HO_8 := n0_
 have HO_33 := n1_
 have HL311_0 := n2_
 have BK316 := n3_
 have BK317 := n4_
 have HB := n5_
 clear n0_ n1_ n2_ n3_ n4_ n5_
 have n0_ := Aside0.mk (Kd.R_drew HO_8.out)
 have n1_ := Aside0.mk (Kd.S_drew HO_33.out)
 have n2_ := Aside0.mk (Kd.R_drew HL311_0.out)
 have n3_ := Aside0.mk (blk_drew BK316.out)
 have n4_ := Aside0.mk (blk_drew BK317.out)
 have n5_ := Aside0.mk (below_drew1 HB.out)
 clear HO_8
 clear HO_33
 clear HL311_0
 clear BK316
 clear BK317
 clear HB
 have HO_8 := n0_
 have HO_33 := n1_
 have HL311_0 := n2_
 have BK316 := n3_
 have BK317 := n4_
 have HB := n5_
 clear n0_ n1_ n2_ n3_ n4_ n5_
 refine start_ (n := 11) (S := fun w' => w'.cell? ⟨gb316, 0, none⟩ = some (.string ((rd_T38 l1 (rd (rd_L5 t308 x35_2) 0)).f0)) ∧ w'.cell? ⟨gb316, 1, none⟩ = some (.string ((rd_T38 l1 (rd (rd_L5 t308 x35_2) 0)).f1)) ∧ w'.cell? ⟨gb316, 2, none⟩ = some (.int .i64 ((rd_T38 l1 (rd (rd_L5 t308 x35_2) 0)).f2)) ∧ w'.cell? ⟨gb317, 0, none⟩ = some (.string ((rd_T36 l0 (rd (rd_L5 t308 x35_2) 1)).f0)) ∧ w'.cell? ⟨gb317, 1, none⟩ = some (.int .i64 ((rd_T36 l0 (rd (rd_L5 t308 x35_2) 1)).f1)) ∧ w'.cell? ⟨gb317, 2, none⟩ = some (.int .i64 ((rd_T36 l0 (rd (rd_L5 t308 x35_2) 1)).f2))) (ds := []) #[false, false, false, false, false, false, false, false, false, false, false] (by kernel_rfl) rfl rfl ⟨(blk_cell BK316.out 0).trans rfl, (blk_cell BK316.out 1).trans rfl, (blk_cell BK316.out 2).trans rfl, (blk_cell BK317.out 0).trans rfl, (blk_cell BK317.out 1).trans rfl, (blk_cell BK317.out 2).trans rfl⟩ (fun hHeld => ?_); refine with_tabW impl_AddAnswers.tab10 impl_AddAnswers.bits10 (fun HT_ HW_ => ?_)
 generalize w68.drew = w69 at HO_8 HO_33 HL311_0 BK316 BK317 HB hHeld ⊢
 refine pure_ (i := 0) (N := some 51) (v := ?_) (a' := ?_) #[true, false, false, false, false, false, false, false, false, false, false] rfl rfl (any_of HT_.out (by kernel_rfl)) (fun _ _ _ h => h) (Or.inl ⟨by rfl, ?_⟩) ?_ ?_
 rotate_left
 {
 intro w'
 go_simp
 with_reducible rfl
 }
 rotate_left
 {
 simp only [Act.put, List.setIfInBounds_toArray, List.set_cons_zero, List.set_cons_succ, i64_w, i32_w]
 rfl
 }
 refine pure_ (i := 4) (N := some 55) (v := ?_) (a' := ?_) #[true, false, false, false, true, false, false, false, false, false, false] rfl rfl (any_of HT_.out (by kernel_rfl)) (fun _ _ _ h => h) (Or.inl ⟨by rfl, ?_⟩) ?_ ?_
 rotate_left
 {
 intro w'
 go_simp
 with_reducible rfl
 }
 rotate_left
 {
 simp only [Act.put, List.setIfInBounds_toArray, List.set_cons_zero, List.set_cons_succ, i64_w, i32_w]
 rfl
 }
 refine pure_ (i := 7) (N := some 58) (v := ?_) (a' := ?_) #[true, false, false, false, true, false, false, true, false, false, false] rfl rfl (any_of HT_.out (by kernel_rfl)) (fun _ _ _ h => h) (Or.inl ⟨by rfl, ?_⟩) ?_ ?_
 rotate_left
 {
 intro w'
 go_simp
 with_reducible rfl
 }
 rotate_left
 {
 simp only [Act.put, List.setIfInBounds_toArray, List.set_cons_zero, List.set_cons_succ, i64_w, i32_w]
 rfl
 }
 refine take_ (i := 1) (N := some 52) (v := ?_) (a' := ?_) #[true, true, false, false, true, false, false, true, false, false, false] rfl rfl (take_ofW HT_.out HW_.out (by kernel_rfl)) (fun _ _ _ h => h) (Or.inl ⟨by rfl, ?_⟩) hHeld ?_ ?_
 rotate_left
 {
 rintro w' ⟨s0, s1, s2, s3, s4, s5⟩
 go_simp
 with_reducible rfl
 }
 rotate_left
 {
 simp only [Act.put, List.setIfInBounds_toArray, List.set_cons_zero, List.set_cons_succ, i64_w, i32_w]
 rfl
 }
 refine take_ (i := 2) (N := some 53) (v := ?_) (a' := ?_) #[true, true, true, false, true, false, false, true, false, false, false] rfl rfl (take_ofW HT_.out HW_.out (by kernel_rfl)) (fun _ _ _ h => h) (Or.inl ⟨by rfl, ?_⟩) hHeld ?_ ?_
 rotate_left
 {
 rintro w' ⟨s0, s1, s2, s3, s4, s5⟩
 go_simp
 with_reducible rfl
 }
 rotate_left
 {
 simp only [Act.put, List.setIfInBounds_toArray, List.set_cons_zero, List.set_cons_succ, i64_w, i32_w]
 rfl
 }
 refine take_ (i := 5) (N := some 56) (v := ?_) (a' := ?_) #[true, true, true, false, true, true, false, true, false, false, false] rfl rfl (take_ofW HT_.out HW_.out (by kernel_rfl)) (fun _ _ _ h => h) (Or.inl ⟨by rfl, ?_⟩) hHeld ?_ ?_
 rotate_left
 {
 rintro w' ⟨s0, s1, s2, s3, s4, s5⟩
 go_simp
 with_reducible rfl
 }
 rotate_left
 {
 simp only [Act.put, List.setIfInBounds_toArray, List.set_cons_zero, List.set_cons_succ, i64_w, i32_w]
 rfl
 }
 refine join_ (σ := Nat) 1 #[true, true, true, true, true, true, true, true, true, true, false] (fun s_ => [(54, .int .i64 t318), (13, .pointer (some ⟨s_, 0, none⟩)), (57, .int .i64 (wrap64 (t318 + ((rd_T38 l1 (rd (rd_L5 t308 x35_2) 0)).f2)))), (59, .agg #[.string ((rd_T38 l1 (rd (rd_L5 t308 x35_2) 0)).f1), .int .i64 (wrap64 (t318 + ((rd_T38 l1 (rd (rd_L5 t308 x35_2) 0)).f2))), .int .i64 a2])]) (fun s_ w' => (w'.cell? ⟨gb316, 0, none⟩ = some (.string ((rd_T38 l1 (rd (rd_L5 t308 x35_2) 0)).f0)) ∧ w'.cell? ⟨gb316, 1, none⟩ = some (.string ((rd_T38 l1 (rd (rd_L5 t308 x35_2) 0)).f1)) ∧ w'.cell? ⟨gb316, 2, none⟩ = some (.int .i64 ((rd_T38 l1 (rd (rd_L5 t308 x35_2) 0)).f2)) ∧ w'.cell? ⟨gb317, 0, none⟩ = some (.string ((rd_T36 l0 (rd (rd_L5 t308 x35_2) 1)).f0)) ∧ w'.cell? ⟨gb317, 1, none⟩ = some (.int .i64 ((rd_T36 l0 (rd (rd_L5 t308 x35_2) 1)).f1)) ∧ w'.cell? ⟨gb317, 2, none⟩ = some (.int .i64 ((rd_T36 l0 (rd (rd_L5 t308 x35_2) 1)).f2))) ∧ (Kd.R (Kd.int .i64) 2 w' w.heap.size (fun k_ => some k_ ≠ (.slice (some ad311) t308.length co18 : Value).ownBlock) (.slice (some ad312) (rd_L5 t308 x35_2).length c311_0) (rd_L5 t308 x35_2)) ∧ (Kd.S (Kd.slice 2 (Kd.int .i64)) 34 w' w.heap.size (fun _ => True) (.slice (some ad311) t308.length co18) t308) ∧ (Kd.R k36 36 w' w.heap.size (fun k_ => k_ ≠ gb317 ∧ k_ ≠ s_) u8 x8_2) ∧ (w'.heap[gb316]? = some (.cells #[.string ((rd_T38 l1 (rd (rd_L5 t308 x35_2) 0)).f0), .string ((rd_T38 l1 (rd (rd_L5 t308 x35_2) 0)).f1), .int .i64 ((rd_T38 l1 (rd (rd_L5 t308 x35_2) 0)).f2)] 38 (0, 0))) ∧ (w'.heap[gb317]? = some (.cells #[.string ((rd_T36 l0 (rd (rd_L5 t308 x35_2) 1)).f0), .int .i64 ((rd_T36 l0 (rd (rd_L5 t308 x35_2) 1)).f1), .int .i64 ((rd_T36 l0 (rd (rd_L5 t308 x35_2) 1)).f2)] 36 (0, 0))) ∧ (w'.heap[s_]? = some (.cells #[.string (⟨#[]⟩ : ByteArray), .int .i64 0, .int .i64 0] 36 (0, 0))) ∧ (w.heap.size ≤ s_) ∧ (w.heap.size ≤ s_) ∧ (gb316 ≠ s_) ∧ (s_ ≠ gb316) ∧ (gb317 ≠ s_) ∧ (s_ ≠ gb317) ∧ (Below w.heap.size w w')) ?_ ?_
 rotate_left
 {
 intro hCont
 refine two_ (i := 3) (j := 9) (Ni := some 54) (Nj := some 13) #[true, true, true, true, true, true, false, true, false, false, false] #[true, true, true, false, true, true, false, true, false, true, false] rfl rfl rfl rfl (two_of HT_.out (by kernel_rfl)) (by decide) (by decide) (fun K hK => ?_) (fun K hK => ?_)
 {
 skip
 refine goes_ Try.func45 (by kernel_rfl) rfl #[.agg #[.string ((rd_T36 l0 (rd (rd_L5 t308 x35_2) 1)).f0), .int .i64 ((rd_T36 l0 (rd (rd_L5 t308 x35_2) 1)).f1), .int .i64 ((rd_T36 l0 (rd (rd_L5 t308 x35_2) 1)).f2)]] (by rfl) rfl rfl (by (try simp only [List.map_toArray, List.map_cons, List.map_nil]); first | done | rfl | (simp only [List.length_drop, List.length_take]; rfl)) ?_
 with_reducible refine (impl_Turn_end.calls ((rd_T36 l0 (rd (rd_L5 t308 x35_2) 1)).f0) ((rd_T36 l0 (rd (rd_L5 t308 x35_2) 1)).f1) ((rd_T36 l0 (rd (rd_L5 t308 x35_2) 1)).f2) t318 _ A28.out).mono ?_
 rintro e w70 ⟨rfl, hb⟩
 refine ⟨_, rfl, ?_⟩
 have n0_ := Aside0.mk (Kd.R_below (by (with_reducible repeat (first | apply Kd.R_alloc | apply Kd.R_drewN | apply Kd.R_drew)); exact HO_8.out) hb)
 have n1_ := Aside0.mk (Kd.S_below (by (with_reducible repeat (first | apply Kd.S_alloc | apply Kd.S_drewN | apply Kd.S_drew)); exact HO_33.out) hb)
 have n2_ := Aside0.mk (Kd.R_below (by (with_reducible repeat (first | apply Kd.R_alloc | apply Kd.R_drewN | apply Kd.R_drew)); exact HL311_0.out) hb)
 have n3_ := Aside0.mk (blk_below (g := gb316) (o := .cells #[.string ((rd_T38 l1 (rd (rd_L5 t308 x35_2) 0)).f0), .string ((rd_T38 l1 (rd (rd_L5 t308 x35_2) 0)).f1), .int .i64 ((rd_T38 l1 (rd (rd_L5 t308 x35_2) 0)).f2)] 38 (0, 0)) (by (with_reducible repeat (first | refine blk_drewN ?_ _ | refine blk_drew ?_ | refine blk_alloc ?_ _)); exact BK316.out) hb)
 have n4_ := Aside0.mk (blk_below (g := gb317) (o := .cells #[.string ((rd_T36 l0 (rd (rd_L5 t308 x35_2) 1)).f0), .int .i64 ((rd_T36 l0 (rd (rd_L5 t308 x35_2) 1)).f1), .int .i64 ((rd_T36 l0 (rd (rd_L5 t308 x35_2) 1)).f2)] 36 (0, 0)) (by (with_reducible repeat (first | refine blk_drewN ?_ _ | refine blk_drew ?_ | refine blk_alloc ?_ _)); exact BK317.out) hb)
 have n5_ := Aside0.mk (below_step (by repeat (first | (with_reducible first | exact HB.out | apply below_alloc | apply pw_below_drewN | apply below_drew1 | refine below_set ?_ GE316.out | refine below_set ?_ GE317.out) | exact HB.out)) hb)
 clear HO_8
 clear HO_33
 clear HL311_0
 clear BK316
 clear BK317
 clear HB
 have HO_8 := n0_
 have HO_33 := n1_
 have HL311_0 := n2_
 have BK316 := n3_
 have BK317 := n4_
 have HB := n5_
 clear n0_ n1_ n2_ n3_ n4_ n5_
 (try clear hb)
 (try clear hb2)
 (try clear hk)
 (try clear hi)
 refine hK.out _ _ ⟨(blk_cell BK316.out 0).trans rfl, (blk_cell BK316.out 1).trans rfl, (blk_cell BK316.out 2).trans rfl, (blk_cell BK317.out 0).trans rfl, (blk_cell BK317.out 1).trans rfl, (blk_cell BK317.out 2).trans rfl⟩ (fun hHeld => ?_)
 clear hK K
 refine norm_ (a' := ?_) ?_ ?_
 rotate_left
 {
 show Act.put _ (some 54) _ = _
 simp only [Act.put, List.setIfInBounds_toArray, List.set_cons_zero, List.set_cons_succ, i64_w, i32_w]
 rfl
 }
 refine pure_ (i := 6) (N := some 57) (v := ?_) (a' := ?_) #[true, true, true, true, true, true, true, true, false, false, false] rfl rfl (any_of HT_.out (by kernel_rfl)) (fun _ _ _ h => h) (Or.inl ⟨by rfl, ?_⟩) ?_ ?_
 rotate_left
 {
 intro w'
 go_simp
 with_reducible rfl
 }
 rotate_left
 {
 simp only [Act.put, List.setIfInBounds_toArray, List.set_cons_zero, List.set_cons_succ, i64_w, i32_w]
 rfl
 }
 refine pure_ (i := 8) (N := some 59) (v := ?_) (a' := ?_) #[true, true, true, true, true, true, true, true, true, false, false] rfl rfl (any_of HT_.out (by kernel_rfl)) (fun _ _ _ h => h) (Or.inl ⟨by rfl, ?_⟩) ?_ ?_
 rotate_left
 {
 intro w'
 go_simp
 with_reducible rfl
 }
 rotate_left
 {
 simp only [Act.put, List.setIfInBounds_toArray, List.set_cons_zero, List.set_cons_succ, i64_w, i32_w]
 rfl
 }
 refine one_ (i := 9) (N := some 13) #[true, true, true, true, true, true, true, true, true, true, false] rfl rfl (one_of HT_.out (by kernel_rfl)) (by decide) (fun K hK => ?_)
 refine box_step ?hg (N := 13) ?hd (cs := #[.string (⟨#[]⟩ : ByteArray), .int .i64 0, .int .i64 0]) (t := 36) ?hr ?_; (case hd => rfl); (case hg => rfl); (case hr => first | (go_simp; done) | (go_simp; rfl))
 intro gb319 hg w71 hbox hb
 have n0_ := Aside0.mk (Kd.R_below (Kd.R_elderB (by (with_reducible repeat (first | apply Kd.R_alloc | apply Kd.R_drewN | apply Kd.R_drew)); exact HO_8.out) gb319 (Nat.le_of_eq hg.symm)) hb)
 have n1_ := Aside0.mk (Kd.S_below (by (with_reducible repeat (first | apply Kd.S_alloc | apply Kd.S_drewN | apply Kd.S_drew)); exact HO_33.out) hb)
 have n2_ := Aside0.mk (Kd.R_below (by (with_reducible repeat (first | apply Kd.R_alloc | apply Kd.R_drewN | apply Kd.R_drew)); exact HL311_0.out) hb)
 have n3_ := Aside0.mk (blk_below (g := gb316) (o := .cells #[.string ((rd_T38 l1 (rd (rd_L5 t308 x35_2) 0)).f0), .string ((rd_T38 l1 (rd (rd_L5 t308 x35_2) 0)).f1), .int .i64 ((rd_T38 l1 (rd (rd_L5 t308 x35_2) 0)).f2)] 38 (0, 0)) (by (with_reducible repeat (first | refine blk_drewN ?_ _ | refine blk_drew ?_ | refine blk_alloc ?_ _)); exact BK316.out) hb)
 have n4_ := Aside0.mk (blk_below (g := gb317) (o := .cells #[.string ((rd_T36 l0 (rd (rd_L5 t308 x35_2) 1)).f0), .int .i64 ((rd_T36 l0 (rd (rd_L5 t308 x35_2) 1)).f1), .int .i64 ((rd_T36 l0 (rd (rd_L5 t308 x35_2) 1)).f2)] 36 (0, 0)) (by (with_reducible repeat (first | refine blk_drewN ?_ _ | refine blk_drew ?_ | refine blk_alloc ?_ _)); exact BK317.out) hb)
 have n5_ := Aside0.mk (below_step (by repeat (first | (with_reducible first | exact HB.out | apply below_alloc | apply pw_below_drewN | apply below_drew1 | refine below_set ?_ GE316.out | refine below_set ?_ GE317.out) | exact HB.out)) hb)
 have n6_ := Aside0.mk (hbox)
 have n7_ := Aside0.mk ((by rw [hg]; exact (below_size (by repeat (first | (with_reducible first | exact HB.out | apply below_alloc | apply pw_below_drewN | apply below_drew1 | refine below_set ?_ GE316.out | refine below_set ?_ GE317.out) | exact HB.out))) : w.heap.size ≤ gb319))
 have n8_ := Aside0.mk ((by rw [hg]; exact (below_size (by repeat (first | (with_reducible first | exact HB.out | apply below_alloc | apply pw_below_drewN | apply below_drew1 | refine below_set ?_ GE316.out | refine below_set ?_ GE317.out) | exact HB.out))) : w.heap.size ≤ gb319))
 have n9_ := Aside0.mk ((by rw [hg]; exact Nat.ne_of_lt (blk_lt (g := gb316) (o := .cells #[.string ((rd_T38 l1 (rd (rd_L5 t308 x35_2) 0)).f0), .string ((rd_T38 l1 (rd (rd_L5 t308 x35_2) 0)).f1), .int .i64 ((rd_T38 l1 (rd (rd_L5 t308 x35_2) 0)).f2)] 38 (0, 0)) (by (with_reducible repeat (first | refine blk_drewN ?_ _ | refine blk_drew ?_ | refine blk_alloc ?_ _)); exact BK316.out)) : gb316 ≠ gb319))
 have n10_ := Aside0.mk ((by rw [hg]; exact Nat.ne_of_gt (blk_lt (g := gb316) (o := .cells #[.string ((rd_T38 l1 (rd (rd_L5 t308 x35_2) 0)).f0), .string ((rd_T38 l1 (rd (rd_L5 t308 x35_2) 0)).f1), .int .i64 ((rd_T38 l1 (rd (rd_L5 t308 x35_2) 0)).f2)] 38 (0, 0)) (by (with_reducible repeat (first | refine blk_drewN ?_ _ | refine blk_drew ?_ | refine blk_alloc ?_ _)); exact BK316.out)) : gb319 ≠ gb316))
 have n11_ := Aside0.mk ((by rw [hg]; exact Nat.ne_of_lt (blk_lt (g := gb317) (o := .cells #[.string ((rd_T36 l0 (rd (rd_L5 t308 x35_2) 1)).f0), .int .i64 ((rd_T36 l0 (rd (rd_L5 t308 x35_2) 1)).f1), .int .i64 ((rd_T36 l0 (rd (rd_L5 t308 x35_2) 1)).f2)] 36 (0, 0)) (by (with_reducible repeat (first | refine blk_drewN ?_ _ | refine blk_drew ?_ | refine blk_alloc ?_ _)); exact BK317.out)) : gb317 ≠ gb319))
 have n12_ := Aside0.mk ((by rw [hg]; exact Nat.ne_of_gt (blk_lt (g := gb317) (o := .cells #[.string ((rd_T36 l0 (rd (rd_L5 t308 x35_2) 1)).f0), .int .i64 ((rd_T36 l0 (rd (rd_L5 t308 x35_2) 1)).f1), .int .i64 ((rd_T36 l0 (rd (rd_L5 t308 x35_2) 1)).f2)] 36 (0, 0)) (by (with_reducible repeat (first | refine blk_drewN ?_ _ | refine blk_drew ?_ | refine blk_alloc ?_ _)); exact BK317.out)) : gb319 ≠ gb317))
 clear HO_8
 clear HO_33
 clear HL311_0
 clear BK316
 clear BK317
 clear HB
 have HO_8 := n0_
 have HO_33 := n1_
 have HL311_0 := n2_
 have BK316 := n3_
 have BK317 := n4_
 have HB := n5_
 have BK319 := n6_
 have GW319 := n7_
 have GE319 := n8_
 have NB316_319 := n9_
 have NB319_316 := n10_
 have NB317_319 := n11_
 have NB319_317 := n12_
 clear n0_ n1_ n2_ n3_ n4_ n5_ n6_ n7_ n8_ n9_ n10_ n11_ n12_
 clear hb hbox hg
 refine hK.out _ _ ⟨(blk_cell BK316.out 0).trans rfl, (blk_cell BK316.out 1).trans rfl, (blk_cell BK316.out 2).trans rfl, (blk_cell BK317.out 0).trans rfl, (blk_cell BK317.out 1).trans rfl, (blk_cell BK317.out 2).trans rfl⟩ (fun hHeld => ?_)
 clear hK K
 refine norm_ (a' := ?_) ?_ ?_
 rotate_left
 {
 show Act.put _ (some 13) _ = _
 simp only [Act.put, List.setIfInBounds_toArray, List.set_cons_zero, List.set_cons_succ, i64_w, i32_w]
 rfl
 }
 exact norm_ (by simp only [putAll, Act.put, List.setIfInBounds_toArray, List.set_cons_zero, List.set_cons_succ]) (hCont (gb319) _ ⟨hHeld, (by (with_reducible repeat (first | apply Kd.R_alloc | apply Kd.R_drewN | apply Kd.R_drew)); exact HL311_0.out), (by (with_reducible repeat (first | apply Kd.S_alloc | apply Kd.S_drewN | apply Kd.S_drew)); exact HO_33.out), (by (with_reducible repeat (first | apply Kd.R_alloc | apply Kd.R_drewN | apply Kd.R_drew)); exact HO_8.out), (by (with_reducible repeat (first | refine blk_drewN ?_ _ | refine blk_drew ?_ | refine blk_alloc ?_ _)); exact BK316.out), (by (with_reducible repeat (first | refine blk_drewN ?_ _ | refine blk_drew ?_ | refine blk_alloc ?_ _)); exact BK317.out), (by (with_reducible repeat (first | refine blk_drewN ?_ _ | refine blk_drew ?_ | refine blk_alloc ?_ _)); exact BK319.out), GW319.out, GE319.out, NB316_319.out, NB319_316.out, NB317_319.out, NB319_317.out, (by repeat (first | (with_reducible first | exact HB.out | apply below_alloc | apply pw_below_drewN | apply below_drew1 | refine below_set ?_ GE316.out | refine below_set ?_ GE317.out | refine below_set ?_ GE319.out) | exact HB.out))⟩)
 }
 {
 skip
 refine box_step ?hg (N := 13) ?hd (cs := #[.string (⟨#[]⟩ : ByteArray), .int .i64 0, .int .i64 0]) (t := 36) ?hr ?_; (case hd => rfl); (case hg => rfl); (case hr => first | (go_simp; done) | (go_simp; rfl))
 intro gb319 hg w70 hbox hb
 have n0_ := Aside0.mk (Kd.R_below (Kd.R_elderB (by (with_reducible repeat (first | apply Kd.R_alloc | apply Kd.R_drewN | apply Kd.R_drew)); exact HO_8.out) gb319 (Nat.le_of_eq hg.symm)) hb)
 have n1_ := Aside0.mk (Kd.S_below (by (with_reducible repeat (first | apply Kd.S_alloc | apply Kd.S_drewN | apply Kd.S_drew)); exact HO_33.out) hb)
 have n2_ := Aside0.mk (Kd.R_below (by (with_reducible repeat (first | apply Kd.R_alloc | apply Kd.R_drewN | apply Kd.R_drew)); exact HL311_0.out) hb)
 have n3_ := Aside0.mk (blk_below (g := gb316) (o := .cells #[.string ((rd_T38 l1 (rd (rd_L5 t308 x35_2) 0)).f0), .string ((rd_T38 l1 (rd (rd_L5 t308 x35_2) 0)).f1), .int .i64 ((rd_T38 l1 (rd (rd_L5 t308 x35_2) 0)).f2)] 38 (0, 0)) (by (with_reducible repeat (first | refine blk_drewN ?_ _ | refine blk_drew ?_ | refine blk_alloc ?_ _)); exact BK316.out) hb)
 have n4_ := Aside0.mk (blk_below (g := gb317) (o := .cells #[.string ((rd_T36 l0 (rd (rd_L5 t308 x35_2) 1)).f0), .int .i64 ((rd_T36 l0 (rd (rd_L5 t308 x35_2) 1)).f1), .int .i64 ((rd_T36 l0 (rd (rd_L5 t308 x35_2) 1)).f2)] 36 (0, 0)) (by (with_reducible repeat (first | refine blk_drewN ?_ _ | refine blk_drew ?_ | refine blk_alloc ?_ _)); exact BK317.out) hb)
 have n5_ := Aside0.mk (below_step (by repeat (first | (with_reducible first | exact HB.out | apply below_alloc | apply pw_below_drewN | apply below_drew1 | refine below_set ?_ GE316.out | refine below_set ?_ GE317.out) | exact HB.out)) hb)
 have n6_ := Aside0.mk (hbox)
 have n7_ := Aside0.mk ((by rw [hg]; exact (below_size (by repeat (first | (with_reducible first | exact HB.out | apply below_alloc | apply pw_below_drewN | apply below_drew1 | refine below_set ?_ GE316.out | refine below_set ?_ GE317.out) | exact HB.out))) : w.heap.size ≤ gb319))
 have n8_ := Aside0.mk ((by rw [hg]; exact (below_size (by repeat (first | (with_reducible first | exact HB.out | apply below_alloc | apply pw_below_drewN | apply below_drew1 | refine below_set ?_ GE316.out | refine below_set ?_ GE317.out) | exact HB.out))) : w.heap.size ≤ gb319))
 have n9_ := Aside0.mk ((by rw [hg]; exact Nat.ne_of_lt (blk_lt (g := gb316) (o := .cells #[.string ((rd_T38 l1 (rd (rd_L5 t308 x35_2) 0)).f0), .string ((rd_T38 l1 (rd (rd_L5 t308 x35_2) 0)).f1), .int .i64 ((rd_T38 l1 (rd (rd_L5 t308 x35_2) 0)).f2)] 38 (0, 0)) (by (with_reducible repeat (first | refine blk_drewN ?_ _ | refine blk_drew ?_ | refine blk_alloc ?_ _)); exact BK316.out)) : gb316 ≠ gb319))
 have n10_ := Aside0.mk ((by rw [hg]; exact Nat.ne_of_gt (blk_lt (g := gb316) (o := .cells #[.string ((rd_T38 l1 (rd (rd_L5 t308 x35_2) 0)).f0), .string ((rd_T38 l1 (rd (rd_L5 t308 x35_2) 0)).f1), .int .i64 ((rd_T38 l1 (rd (rd_L5 t308 x35_2) 0)).f2)] 38 (0, 0)) (by (with_reducible repeat (first | refine blk_drewN ?_ _ | refine blk_drew ?_ | refine blk_alloc ?_ _)); exact BK316.out)) : gb319 ≠ gb316))
 have n11_ := Aside0.mk ((by rw [hg]; exact Nat.ne_of_lt (blk_lt (g := gb317) (o := .cells #[.string ((rd_T36 l0 (rd (rd_L5 t308 x35_2) 1)).f0), .int .i64 ((rd_T36 l0 (rd (rd_L5 t308 x35_2) 1)).f1), .int .i64 ((rd_T36 l0 (rd (rd_L5 t308 x35_2) 1)).f2)] 36 (0, 0)) (by (with_reducible repeat (first | refine blk_drewN ?_ _ | refine blk_drew ?_ | refine blk_alloc ?_ _)); exact BK317.out)) : gb317 ≠ gb319))
 have n12_ := Aside0.mk ((by rw [hg]; exact Nat.ne_of_gt (blk_lt (g := gb317) (o := .cells #[.string ((rd_T36 l0 (rd (rd_L5 t308 x35_2) 1)).f0), .int .i64 ((rd_T36 l0 (rd (rd_L5 t308 x35_2) 1)).f1), .int .i64 ((rd_T36 l0 (rd (rd_L5 t308 x35_2) 1)).f2)] 36 (0, 0)) (by (with_reducible repeat (first | refine blk_drewN ?_ _ | refine blk_drew ?_ | refine blk_alloc ?_ _)); exact BK317.out)) : gb319 ≠ gb317))
 clear HO_8
 clear HO_33
 clear HL311_0
 clear BK316
 clear BK317
 clear HB
 have HO_8 := n0_
 have HO_33 := n1_
 have HL311_0 := n2_
 have BK316 := n3_
 have BK317 := n4_
 have HB := n5_
 have BK319 := n6_
 have GW319 := n7_
 have GE319 := n8_
 have NB316_319 := n9_
 have NB319_316 := n10_
 have NB317_319 := n11_
 have NB319_317 := n12_
 clear n0_ n1_ n2_ n3_ n4_ n5_ n6_ n7_ n8_ n9_ n10_ n11_ n12_
 clear hb hbox hg
 refine hK.out _ _ ⟨(blk_cell BK316.out 0).trans rfl, (blk_cell BK316.out 1).trans rfl, (blk_cell BK316.out 2).trans rfl, (blk_cell BK317.out 0).trans rfl, (blk_cell BK317.out 1).trans rfl, (blk_cell BK317.out 2).trans rfl⟩ (fun hHeld => ?_)
 clear hK K
 refine norm_ (a' := ?_) ?_ ?_
 rotate_left
 {
 show Act.put _ (some 13) _ = _
 simp only [Act.put, List.setIfInBounds_toArray, List.set_cons_zero, List.set_cons_succ, i64_w, i32_w]
 rfl
 }
 refine one_ (i := 3) (N := some 54) #[true, true, true, true, true, true, false, true, false, true, false] rfl rfl (one_of HT_.out (by kernel_rfl)) (by decide) (fun K hK => ?_)
 refine goes_ Try.func45 (by kernel_rfl) rfl #[.agg #[.string ((rd_T36 l0 (rd (rd_L5 t308 x35_2) 1)).f0), .int .i64 ((rd_T36 l0 (rd (rd_L5 t308 x35_2) 1)).f1), .int .i64 ((rd_T36 l0 (rd (rd_L5 t308 x35_2) 1)).f2)]] (by rfl) rfl rfl (by (try simp only [List.map_toArray, List.map_cons, List.map_nil]); first | done | rfl | (simp only [List.length_drop, List.length_take]; rfl)) ?_
 with_reducible refine (impl_Turn_end.calls ((rd_T36 l0 (rd (rd_L5 t308 x35_2) 1)).f0) ((rd_T36 l0 (rd (rd_L5 t308 x35_2) 1)).f1) ((rd_T36 l0 (rd (rd_L5 t308 x35_2) 1)).f2) t318 _ A28.out).mono ?_
 rintro e w71 ⟨rfl, hb⟩
 refine ⟨_, rfl, ?_⟩
 have n0_ := Aside0.mk (Kd.R_below (by (with_reducible repeat (first | apply Kd.R_alloc | apply Kd.R_drewN | apply Kd.R_drew)); exact HO_8.out) hb)
 have n1_ := Aside0.mk (Kd.S_below (by (with_reducible repeat (first | apply Kd.S_alloc | apply Kd.S_drewN | apply Kd.S_drew)); exact HO_33.out) hb)
 have n2_ := Aside0.mk (Kd.R_below (by (with_reducible repeat (first | apply Kd.R_alloc | apply Kd.R_drewN | apply Kd.R_drew)); exact HL311_0.out) hb)
 have n3_ := Aside0.mk (blk_below (g := gb316) (o := .cells #[.string ((rd_T38 l1 (rd (rd_L5 t308 x35_2) 0)).f0), .string ((rd_T38 l1 (rd (rd_L5 t308 x35_2) 0)).f1), .int .i64 ((rd_T38 l1 (rd (rd_L5 t308 x35_2) 0)).f2)] 38 (0, 0)) (by (with_reducible repeat (first | refine blk_drewN ?_ _ | refine blk_drew ?_ | refine blk_alloc ?_ _)); exact BK316.out) hb)
 have n4_ := Aside0.mk (blk_below (g := gb317) (o := .cells #[.string ((rd_T36 l0 (rd (rd_L5 t308 x35_2) 1)).f0), .int .i64 ((rd_T36 l0 (rd (rd_L5 t308 x35_2) 1)).f1), .int .i64 ((rd_T36 l0 (rd (rd_L5 t308 x35_2) 1)).f2)] 36 (0, 0)) (by (with_reducible repeat (first | refine blk_drewN ?_ _ | refine blk_drew ?_ | refine blk_alloc ?_ _)); exact BK317.out) hb)
 have n5_ := Aside0.mk (blk_below (g := gb319) (o := .cells #[.string (⟨#[]⟩ : ByteArray), .int .i64 0, .int .i64 0] 36 (0, 0)) (by (with_reducible repeat (first | refine blk_drewN ?_ _ | refine blk_drew ?_ | refine blk_alloc ?_ _)); exact BK319.out) hb)
 have n6_ := Aside0.mk (below_step (by repeat (first | (with_reducible first | exact HB.out | apply below_alloc | apply pw_below_drewN | apply below_drew1 | refine below_set ?_ GE316.out | refine below_set ?_ GE317.out | refine below_set ?_ GE319.out) | exact HB.out)) hb)
 clear HO_8
 clear HO_33
 clear HL311_0
 clear BK316
 clear BK317
 clear BK319
 clear HB
 have HO_8 := n0_
 have HO_33 := n1_
 have HL311_0 := n2_
 have BK316 := n3_
 have BK317 := n4_
 have BK319 := n5_
 have HB := n6_
 clear n0_ n1_ n2_ n3_ n4_ n5_ n6_
 (try clear hb)
 (try clear hb2)
 (try clear hk)
 (try clear hi)
 refine hK.out _ _ ⟨(blk_cell BK316.out 0).trans rfl, (blk_cell BK316.out 1).trans rfl, (blk_cell BK316.out 2).trans rfl, (blk_cell BK317.out 0).trans rfl, (blk_cell BK317.out 1).trans rfl, (blk_cell BK317.out 2).trans rfl⟩ (fun hHeld => ?_)
 clear hK K
 refine norm_ (a' := ?_) ?_ ?_
 rotate_left
 {
 show Act.put _ (some 54) _ = _
 simp only [Act.put, List.setIfInBounds_toArray, List.set_cons_zero, List.set_cons_succ, i64_w, i32_w]
 rfl
 }
 refine pure_ (i := 6) (N := some 57) (v := ?_) (a' := ?_) #[true, true, true, true, true, true, true, true, false, true, false] rfl rfl (any_of HT_.out (by kernel_rfl)) (fun _ _ _ h => h) (Or.inl ⟨by rfl, ?_⟩) ?_ ?_
 rotate_left
 {
 intro w'
 go_simp
 with_reducible rfl
 }
 rotate_left
 {
 simp only [Act.put, List.setIfInBounds_toArray, List.set_cons_zero, List.set_cons_succ, i64_w, i32_w]
 rfl
 }
 refine pure_ (i := 8) (N := some 59) (v := ?_) (a' := ?_) #[true, true, true, true, true, true, true, true, true, true, false] rfl rfl (any_of HT_.out (by kernel_rfl)) (fun _ _ _ h => h) (Or.inl ⟨by rfl, ?_⟩) ?_ ?_
 rotate_left
 {
 intro w'
 go_simp
 with_reducible rfl
 }
 rotate_left
 {
 simp only [Act.put, List.setIfInBounds_toArray, List.set_cons_zero, List.set_cons_succ, i64_w, i32_w]
 rfl
 }
 exact norm_ (by simp only [putAll, Act.put, List.setIfInBounds_toArray, List.set_cons_zero, List.set_cons_succ]) (hCont (gb319) _ ⟨hHeld, (by (with_reducible repeat (first | apply Kd.R_alloc | apply Kd.R_drewN | apply Kd.R_drew)); exact HL311_0.out), (by (with_reducible repeat (first | apply Kd.S_alloc | apply Kd.S_drewN | apply Kd.S_drew)); exact HO_33.out), (by (with_reducible repeat (first | apply Kd.R_alloc | apply Kd.R_drewN | apply Kd.R_drew)); exact HO_8.out), (by (with_reducible repeat (first | refine blk_drewN ?_ _ | refine blk_drew ?_ | refine blk_alloc ?_ _)); exact BK316.out), (by (with_reducible repeat (first | refine blk_drewN ?_ _ | refine blk_drew ?_ | refine blk_alloc ?_ _)); exact BK317.out), (by (with_reducible repeat (first | refine blk_drewN ?_ _ | refine blk_drew ?_ | refine blk_alloc ?_ _)); exact BK319.out), GW319.out, GE319.out, NB316_319.out, NB319_316.out, NB317_319.out, NB319_317.out, (by repeat (first | (with_reducible first | exact HB.out | apply below_alloc | apply pw_below_drewN | apply below_drew1 | refine below_set ?_ GE316.out | refine below_set ?_ GE317.out | refine below_set ?_ GE319.out) | exact HB.out))⟩)
 }
 }
 rintro gb319 w72 ⟨hS_, h0_, h1_, h2_, h3_, h4_, h5_, h6_, h7_, h8_, h9_, h10_, h11_, h12_⟩
 have n0_ : Aside0 (Kd.R (Kd.int .i64) 2 w72 w.heap.size (fun k_ => some k_ ≠ (.slice (some ad311) t308.length co18 : Value).ownBlock) (.slice (some ad312) (rd_L5 t308 x35_2).length c311_0) (rd_L5 t308 x35_2)) := ⟨h0_⟩
 have n1_ : Aside0 (Kd.S (Kd.slice 2 (Kd.int .i64)) 34 w72 w.heap.size (fun _ => True) (.slice (some ad311) t308.length co18) t308) := ⟨h1_⟩
 have n2_ : Aside0 (Kd.R k36 36 w72 w.heap.size (fun k_ => k_ ≠ gb317 ∧ k_ ≠ gb319) u8 x8_2) := ⟨h2_⟩
 have n3_ : Aside0 (w72.heap[gb316]? = some (.cells #[.string ((rd_T38 l1 (rd (rd_L5 t308 x35_2) 0)).f0), .string ((rd_T38 l1 (rd (rd_L5 t308 x35_2) 0)).f1), .int .i64 ((rd_T38 l1 (rd (rd_L5 t308 x35_2) 0)).f2)] 38 (0, 0))) := ⟨h3_⟩
 have n4_ : Aside0 (w72.heap[gb317]? = some (.cells #[.string ((rd_T36 l0 (rd (rd_L5 t308 x35_2) 1)).f0), .int .i64 ((rd_T36 l0 (rd (rd_L5 t308 x35_2) 1)).f1), .int .i64 ((rd_T36 l0 (rd (rd_L5 t308 x35_2) 1)).f2)] 36 (0, 0))) := ⟨h4_⟩
 have n5_ : Aside0 (w72.heap[gb319]? = some (.cells #[.string (⟨#[]⟩ : ByteArray), .int .i64 0, .int .i64 0] 36 (0, 0))) := ⟨h5_⟩
 have n6_ : Aside0 (w.heap.size ≤ gb319) := ⟨h6_⟩
 have n7_ : Aside0 (w.heap.size ≤ gb319) := ⟨h7_⟩
 have n8_ : Aside0 (gb316 ≠ gb319) := ⟨h8_⟩
 have n9_ : Aside0 (gb319 ≠ gb316) := ⟨h9_⟩
 have n10_ : Aside0 (gb317 ≠ gb319) := ⟨h10_⟩
 have n11_ : Aside0 (gb319 ≠ gb317) := ⟨h11_⟩
 have n12_ : Aside0 (Below w.heap.size w w72) := ⟨h12_⟩
 clear HO_8
 clear HO_33
 clear HL311_0
 clear BK316
 clear BK317
 clear HB
 clear h0_ h1_ h2_ h3_ h4_ h5_ h6_ h7_ h8_ h9_ h10_ h11_ h12_
 have HL311_0 := n0_
 have HO_33 := n1_
 have HO_8 := n2_
 have BK316 := n3_
 have BK317 := n4_
 have BK319 := n5_
 have GW319 := n6_
 have GE319 := n7_
 have NB316_319 := n8_
 have NB319_316 := n9_
 have NB317_319 := n10_
 have NB319_317 := n11_
 have HB := n12_
 clear n0_ n1_ n2_ n3_ n4_ n5_ n6_ n7_ n8_ n9_ n10_ n11_ n12_
 have hHeld : w72.cell? ⟨gb316, 0, none⟩ = some (.string ((rd_T38 l1 (rd (rd_L5 t308 x35_2) 0)).f0)) ∧ w72.cell? ⟨gb316, 1, none⟩ = some (.string ((rd_T38 l1 (rd (rd_L5 t308 x35_2) 0)).f1)) ∧ w72.cell? ⟨gb316, 2, none⟩ = some (.int .i64 ((rd_T38 l1 (rd (rd_L5 t308 x35_2) 0)).f2)) ∧ w72.cell? ⟨gb317, 0, none⟩ = some (.string ((rd_T36 l0 (rd (rd_L5 t308 x35_2) 1)).f0)) ∧ w72.cell? ⟨gb317, 1, none⟩ = some (.int .i64 ((rd_T36 l0 (rd (rd_L5 t308 x35_2) 1)).f1)) ∧ w72.cell? ⟨gb317, 2, none⟩ = some (.int .i64 ((rd_T36 l0 (rd (rd_L5 t308 x35_2) 1)).f2)) := hS_
 refine norm_ (a' := ?_) ?_ ?_
 rotate_left
 {
 simp only [putAll, Act.put, List.setIfInBounds_toArray, List.set_cons_zero, List.set_cons_succ]
 rfl
 }
 refine one_ (i := 10) (N := none) #[true, true, true, true, true, true, true, true, true, true, true] rfl rfl (one_of HT_.out (by kernel_rfl)) (by decide) (fun K hK => ?_)
 have hs73 : w72.cell? ⟨gb319, 0, none⟩ = some (.string (⟨#[]⟩ : ByteArray)) := (blk_cell BK319.out 0).trans rfl
 have hfs73 := blk_frozen BK319.out 0
 have hns73_0 := NB316_319.out
 have hns73_1 := NB317_319.out
 have hms73_0 := NB319_316.out
 have hms73_1 := NB319_317.out
 have hs74 : w72.cell? ⟨gb319, 1, none⟩ = some (.int .i64 0) := (blk_cell BK319.out 1).trans rfl
 have hfs74 := blk_frozen BK319.out 1
 have hns74_0 := NB316_319.out
 have hns74_1 := NB317_319.out
 have hms74_0 := NB319_316.out
 have hms74_1 := NB319_317.out
 have hs75 : w72.cell? ⟨gb319, 2, none⟩ = some (.int .i64 0) := (blk_cell BK319.out 2).trans rfl
 have hfs75 := blk_frozen BK319.out 2
 have hns75_0 := NB316_319.out
 have hns75_1 := NB317_319.out
 have hms75_0 := NB319_316.out
 have hms75_1 := NB319_317.out
 refine skip_ (w1 := ?_) (by rfl) rfl ?_ ?_
 rotate_left
 {
 go_simp
 rfl
 }
 refine hK.out _ _ ⟨(by (iterate 3 (refine (cell_far (p := ⟨gb319, _, none⟩) NB316_319.out _).trans ?_)); exact hHeld.1), (by (iterate 3 (refine (cell_far (p := ⟨gb319, _, none⟩) NB316_319.out _).trans ?_)); exact hHeld.2.1), (by (iterate 3 (refine (cell_far (p := ⟨gb319, _, none⟩) NB316_319.out _).trans ?_)); exact hHeld.2.2.1), (by (iterate 3 (refine (cell_far (p := ⟨gb319, _, none⟩) NB317_319.out _).trans ?_)); exact hHeld.2.2.2.1), (by (iterate 3 (refine (cell_far (p := ⟨gb319, _, none⟩) NB317_319.out _).trans ?_)); exact hHeld.2.2.2.2.1), (by (iterate 3 (refine (cell_far (p := ⟨gb319, _, none⟩) NB317_319.out _).trans ?_)); exact hHeld.2.2.2.2.2)⟩ (fun hHeld => ?_)
 clear hK K
 refine done_ (done_of HT_.out (by kernel_rfl)) ?_
 have hnb76 := NB319_316.out
 have hnc76 := NB316_319.out
 have hnb77 := NB319_317.out
 have hnc77 := NB317_319.out
 have hcz78_0 : w72.cell? ⟨gb319, 0, none⟩ = some (.string (⟨#[]⟩ : ByteArray)) := (blk_cell BK319.out 0).trans rfl
 have hcz78_1 : w72.cell? ⟨gb319, 1, none⟩ = some (.int .i64 0) := (blk_cell BK319.out 1).trans rfl
 have hcz78_2 : w72.cell? ⟨gb319, 2, none⟩ = some (.int .i64 0) := (blk_cell BK319.out 2).trans rfl
 have hfz78_0 := blk_frozen BK319.out 0
 have hfz78_1 := blk_frozen BK319.out 1
 have hfz78_2 := blk_frozen BK319.out 2
 obtain ⟨Ao79, co79, eo79⟩ := Kd.R_slice HO_8.out
 subst eo79
 try go_wp2_with (first | ((with_reducible refine gate_callee (f := 46) rfl ?_); refine goesL_ (some 65) rfl rfl Try.func46 (by kernel_rfl) rfl #[.slice Ao79 x8_2.length co79, .string ((rd_T38 l1 (rd (rd_L5 t308 x35_2) 0)).f1), .int .i64 (wrap64 (t318 + ((rd_T38 l1 (rd (rd_L5 t308 x35_2) 0)).f2)))] rfl (by (try simp only [List.map_toArray, List.map_cons, List.map_nil]); first | done | rfl | (simp only [List.length_drop, List.length_take]; rfl)) ?_; (with_reducible refine (impl_begins.calls k2 _ _ x8_2 ((rd_T38 l1 (rd (rd_L5 t308 x35_2) 0)).f1) (wrap64 (t318 + ((rd_T38 l1 (rd (rd_L5 t308 x35_2) 0)).f2))) false _ ?side1 ?side2 A29.out).mono ?_); (case side1 => refine (Kd.R_reads' (e := 36) (base := w.heap.size) (ok := fun k_ => (k_ ≠ gb317 ∧ k_ ≠ gb319)) (n := x8_2.length) (c := co79) ?_).2.2; exact (by (with_reducible repeat (first | apply Kd.R_alloc | apply Kd.R_drewN | apply Kd.R_drew)); exact (Kd.R_mono (Kd.R_far (p := ⟨gb319, 2, none⟩) (Kd.R_far (p := ⟨gb319, 1, none⟩) (Kd.R_far (p := ⟨gb319, 0, none⟩) (Kd.R_mono HO_8.out (fun k_ hk => (⟨hk, hk.2⟩ : _ ∧ k_ ≠ gb319))) (fun _ hk => hk.2) (.string ((rd_T38 l1 (rd (rd_L5 t308 x35_2) 0)).f1))) (fun _ hk => hk.2) (.int .i64 (wrap64 (t318 + ((rd_T38 l1 (rd (rd_L5 t308 x35_2) 0)).f2))))) (fun _ hk => hk.2) (.int .i64 a2)) (fun _ h_ => h_.1)))); (case side2 => exact (Kd.R_reads' HO_8.out).2.1); rintro e w80 ⟨rfl, hb⟩; refine ⟨_, rfl, ?_⟩; have n0_ := Aside0.mk (Kd.R_below (by (with_reducible repeat (first | apply Kd.R_alloc | apply Kd.R_drewN | apply Kd.R_drew)); exact (Kd.R_mono (Kd.R_far (p := ⟨gb319, 2, none⟩) (Kd.R_far (p := ⟨gb319, 1, none⟩) (Kd.R_far (p := ⟨gb319, 0, none⟩) (Kd.R_mono HO_8.out (fun k_ hk => (⟨hk, hk.2⟩ : _ ∧ k_ ≠ gb319))) (fun _ hk => hk.2) (.string ((rd_T38 l1 (rd (rd_L5 t308 x35_2) 0)).f1))) (fun _ hk => hk.2) (.int .i64 (wrap64 (t318 + ((rd_T38 l1 (rd (rd_L5 t308 x35_2) 0)).f2))))) (fun _ hk => hk.2) (.int .i64 a2)) (fun _ h_ => h_.1))) hb); have n1_ := Aside0.mk (Kd.S_below (by (with_reducible repeat (first | apply Kd.S_alloc | apply Kd.S_drewN | apply Kd.S_drew)); exact (Kd.S_mono (Kd.S_far (p := ⟨gb319, 2, none⟩) (Kd.S_far (p := ⟨gb319, 1, none⟩) (Kd.S_far (p := ⟨gb319, 0, none⟩) (Kd.S_types HO_33.out BK319.out (by decide)) (fun _ hk => hk.2) (.string ((rd_T38 l1 (rd (rd_L5 t308 x35_2) 0)).f1))) (fun _ hk => hk.2) (.int .i64 (wrap64 (t318 + ((rd_T38 l1 (rd (rd_L5 t308 x35_2) 0)).f2))))) (fun _ hk => hk.2) (.int .i64 a2)) (fun _ h_ => h_.1))) hb); have n2_ := Aside0.mk (Kd.R_below (by (with_reducible repeat (first | apply Kd.R_alloc | apply Kd.R_drewN | apply Kd.R_drew)); exact (Kd.R_mono (Kd.R_far (p := ⟨gb319, 2, none⟩) (Kd.R_far (p := ⟨gb319, 1, none⟩) (Kd.R_far (p := ⟨gb319, 0, none⟩) (Kd.R_types HL311_0.out BK319.out (by decide)) (fun _ hk => hk.2) (.string ((rd_T38 l1 (rd (rd_L5 t308 x35_2) 0)).f1))) (fun _ hk => hk.2) (.int .i64 (wrap64 (t318 + ((rd_T38 l1 (rd (rd_L5 t308 x35_2) 0)).f2))))) (fun _ hk => hk.2) (.int .i64 a2)) (fun _ h_ => h_.1))) hb); have n3_ := Aside0.mk (blk_below (g := gb316) (o := .cells #[.string ((rd_T38 l1 (rd (rd_L5 t308 x35_2) 0)).f0), .string ((rd_T38 l1 (rd (rd_L5 t308 x35_2) 0)).f1), .int .i64 ((rd_T38 l1 (rd (rd_L5 t308 x35_2) 0)).f2)] 38 (0, 0)) (by (with_reducible repeat (first | refine blk_drewN ?_ _ | refine blk_drew ?_ | refine blk_alloc ?_ _)); refine blk_far ?_ NB316_319.out _; (with_reducible repeat (first | refine blk_drewN ?_ _ | refine blk_drew ?_ | refine blk_alloc ?_ _)); refine blk_far ?_ NB316_319.out _; (with_reducible repeat (first | refine blk_drewN ?_ _ | refine blk_drew ?_ | refine blk_alloc ?_ _)); refine blk_far ?_ NB316_319.out _; (with_reducible repeat (first | refine blk_drewN ?_ _ | refine blk_drew ?_ | refine blk_alloc ?_ _)); exact BK316.out) hb); have n4_ := Aside0.mk (blk_below (g := gb317) (o := .cells #[.string ((rd_T36 l0 (rd (rd_L5 t308 x35_2) 1)).f0), .int .i64 ((rd_T36 l0 (rd (rd_L5 t308 x35_2) 1)).f1), .int .i64 ((rd_T36 l0 (rd (rd_L5 t308 x35_2) 1)).f2)] 36 (0, 0)) (by (with_reducible repeat (first | refine blk_drewN ?_ _ | refine blk_drew ?_ | refine blk_alloc ?_ _)); refine blk_far ?_ NB317_319.out _; (with_reducible repeat (first | refine blk_drewN ?_ _ | refine blk_drew ?_ | refine blk_alloc ?_ _)); refine blk_far ?_ NB317_319.out _; (with_reducible repeat (first | refine blk_drewN ?_ _ | refine blk_drew ?_ | refine blk_alloc ?_ _)); refine blk_far ?_ NB317_319.out _; (with_reducible repeat (first | refine blk_drewN ?_ _ | refine blk_drew ?_ | refine blk_alloc ?_ _)); exact BK317.out) hb); have n5_ := Aside0.mk (blk_below (g := gb319) (o := .cells #[.string ((rd_T38 l1 (rd (rd_L5 t308 x35_2) 0)).f1), .int .i64 (wrap64 (t318 + ((rd_T38 l1 (rd (rd_L5 t308 x35_2) 0)).f2))), .int .i64 a2] 36 (0, 0)) (by (with_reducible repeat (first | refine blk_drewN ?_ _ | refine blk_drew ?_ | refine blk_alloc ?_ _)); refine blk_put (cs := #[.string ((rd_T38 l1 (rd (rd_L5 t308 x35_2) 0)).f1), .int .i64 (wrap64 (t318 + ((rd_T38 l1 (rd (rd_L5 t308 x35_2) 0)).f2))), .int .i64 0]) ?_ 2 _ rfl; (with_reducible repeat (first | refine blk_drewN ?_ _ | refine blk_drew ?_ | refine blk_alloc ?_ _)); refine blk_put (cs := #[.string ((rd_T38 l1 (rd (rd_L5 t308 x35_2) 0)).f1), .int .i64 0, .int .i64 0]) ?_ 1 _ rfl; (with_reducible repeat (first | refine blk_drewN ?_ _ | refine blk_drew ?_ | refine blk_alloc ?_ _)); refine blk_put (cs := #[.string (⟨#[]⟩ : ByteArray), .int .i64 0, .int .i64 0]) ?_ 0 _ rfl; (with_reducible repeat (first | refine blk_drewN ?_ _ | refine blk_drew ?_ | refine blk_alloc ?_ _)); exact BK319.out) hb); have n6_ := Aside0.mk (below_step (by repeat (first | (with_reducible first | exact HB.out | apply below_alloc | apply pw_below_drewN | apply below_drew1 | refine below_set ?_ GE316.out | refine below_set ?_ GE317.out | refine below_set ?_ GE319.out) | exact HB.out)) hb); clear HO_8; clear HO_33; clear HL311_0; clear BK316; clear BK317; clear BK319; clear HB; have HO_8 := n0_; have HO_33 := n1_; have HL311_0 := n2_; have BK316 := n3_; have BK317 := n4_; have BK319 := n5_; have HB := n6_; clear n0_ n1_ n2_ n3_ n4_ n5_ n6_; (try clear hb); (try clear hb2); (try clear hk); (try clear hi); have hcz81_0 : w80.cell? ⟨gb319, 0, none⟩ = some (.string ((rd_T38 l1 (rd (rd_L5 t308 x35_2) 0)).f1)) := (blk_cell BK319.out 0).trans rfl; have hcz81_1 : w80.cell? ⟨gb319, 1, none⟩ = some (.int .i64 (wrap64 (t318 + ((rd_T38 l1 (rd (rd_L5 t308 x35_2) 0)).f2)))) := (blk_cell BK319.out 1).trans rfl; have hcz81_2 : w80.cell? ⟨gb319, 2, none⟩ = some (.int .i64 a2) := (blk_cell BK319.out 2).trans rfl; have hfz81_0 := blk_frozen BK319.out 0; have hfz81_1 := blk_frozen BK319.out 1; have hfz81_2 := blk_frozen BK319.out 2) | ((with_reducible refine gate_callee (f := 47) rfl ?_); refine goesL_ (some 67) rfl rfl Try.func47 (by kernel_rfl) rfl #[.agg #[.string ((rd_T38 l1 (rd (rd_L5 t308 x35_2) 0)).f1), .int .i64 (wrap64 (t318 + ((rd_T38 l1 (rd (rd_L5 t308 x35_2) 0)).f2))), .int .i64 a2]] rfl (by (try simp only [List.map_toArray, List.map_cons, List.map_nil]); first | done | rfl | (simp only [List.length_drop, List.length_take]; rfl)) ?_; (with_reducible refine (impl_Turn_valid.calls k2 ((rd_T38 l1 (rd (rd_L5 t308 x35_2) 0)).f1) (wrap64 (t318 + ((rd_T38 l1 (rd (rd_L5 t308 x35_2) 0)).f2))) a2 true _ A54.out).mono ?_); rintro e w82 ⟨rfl, hb⟩; refine ⟨_, rfl, ?_⟩; have n0_ := Aside0.mk (Kd.R_below (by (with_reducible repeat (first | apply Kd.R_alloc | apply Kd.R_drewN | apply Kd.R_drew)); exact HO_8.out) hb); have n1_ := Aside0.mk (Kd.S_below (by (with_reducible repeat (first | apply Kd.S_alloc | apply Kd.S_drewN | apply Kd.S_drew)); exact HO_33.out) hb); have n2_ := Aside0.mk (Kd.R_below (by (with_reducible repeat (first | apply Kd.R_alloc | apply Kd.R_drewN | apply Kd.R_drew)); exact HL311_0.out) hb); have n3_ := Aside0.mk (blk_below (g := gb316) (o := .cells #[.string ((rd_T38 l1 (rd (rd_L5 t308 x35_2) 0)).f0), .string ((rd_T38 l1 (rd (rd_L5 t308 x35_2) 0)).f1), .int .i64 ((rd_T38 l1 (rd (rd_L5 t308 x35_2) 0)).f2)] 38 (0, 0)) (by (with_reducible repeat (first | refine blk_drewN ?_ _ | refine blk_drew ?_ | refine blk_alloc ?_ _)); exact BK316.out) hb); have n4_ := Aside0.mk (blk_below (g := gb317) (o := .cells #[.string ((rd_T36 l0 (rd (rd_L5 t308 x35_2) 1)).f0), .int .i64 ((rd_T36 l0 (rd (rd_L5 t308 x35_2) 1)).f1), .int .i64 ((rd_T36 l0 (rd (rd_L5 t308 x35_2) 1)).f2)] 36 (0, 0)) (by (with_reducible repeat (first | refine blk_drewN ?_ _ | refine blk_drew ?_ | refine blk_alloc ?_ _)); exact BK317.out) hb); have n5_ := Aside0.mk (blk_below (g := gb319) (o := .cells #[.string ((rd_T38 l1 (rd (rd_L5 t308 x35_2) 0)).f1), .int .i64 (wrap64 (t318 + ((rd_T38 l1 (rd (rd_L5 t308 x35_2) 0)).f2))), .int .i64 a2] 36 (0, 0)) (by (with_reducible repeat (first | refine blk_drewN ?_ _ | refine blk_drew ?_ | refine blk_alloc ?_ _)); exact BK319.out) hb); have n6_ := Aside0.mk (below_step (by repeat (first | (with_reducible first | exact HB.out | apply below_alloc | apply pw_below_drewN | apply below_drew1 | refine below_set ?_ GE316.out | refine below_set ?_ GE317.out | refine below_set ?_ GE319.out) | exact HB.out)) hb); clear HO_8; clear HO_33; clear HL311_0; clear BK316; clear BK317; clear BK319; clear HB; have HO_8 := n0_; have HO_33 := n1_; have HL311_0 := n2_; have BK316 := n3_; have BK317 := n4_; have BK319 := n5_; have HB := n6_; clear n0_ n1_ n2_ n3_ n4_ n5_ n6_; (try clear hb); (try clear hb2); (try clear hk); (try clear hi); have hcz83_0 : w82.cell? ⟨gb319, 0, none⟩ = some (.string ((rd_T38 l1 (rd (rd_L5 t308 x35_2) 0)).f1)) := (blk_cell BK319.out 0).trans rfl; have hcz83_1 : w82.cell? ⟨gb319, 1, none⟩ = some (.int .i64 (wrap64 (t318 + ((rd_T38 l1 (rd (rd_L5 t308 x35_2) 0)).f2)))) := (blk_cell BK319.out 1).trans rfl; have hcz83_2 : w82.cell? ⟨gb319, 2, none⟩ = some (.int .i64 a2) := (blk_cell BK319.out 2).trans rfl; have hfz83_0 := blk_frozen BK319.out 0; have hfz83_1 := blk_frozen BK319.out 1; have hfz83_2 := blk_frozen BK319.out 2) | ((with_reducible refine gate_callee (f := 48) rfl ?_); refine goesL_ (some 72) rfl rfl Try.func48 (by kernel_rfl) rfl #[.slice Ao79 x8_2.length co79, .agg #[.string ((rd_T38 l1 (rd (rd_L5 t308 x35_2) 0)).f1), .int .i64 (wrap64 (t318 + ((rd_T38 l1 (rd (rd_L5 t308 x35_2) 0)).f2))), .int .i64 a2], .func (.func 49) #[] #[]] rfl (by (try simp only [List.map_toArray, List.map_cons, List.map_nil]); first | done | rfl | (simp only [List.length_drop, List.length_take]; rfl)) ?_; (with_reducible refine (impl_Turn_48_at_impl_compareTurns.calls k2 _ _ x8_2 ((rd_T38 l1 (rd (rd_L5 t308 x35_2) 0)).f1) (wrap64 (t318 + ((rd_T38 l1 (rd (rd_L5 t308 x35_2) 0)).f2))) a2 t322 t323 _ ?side1 ?side2 A56.out).mono ?_); (case side1 => repeat (first | exact (Kd.R_reads' HO_8.out).2.2 | (with_reducible refine Kd.C_alloc ?_ _) | (with_reducible refine Kd.C_drewN ?_ _) | (with_reducible refine Kd.C_drew ?_))); (case side2 => exact (Kd.R_reads' HO_8.out).2.1); rintro e w84 ⟨rfl, hb⟩; refine ⟨_, rfl, ?_⟩; have n0_ := Aside0.mk (Kd.R_below (by (with_reducible repeat (first | apply Kd.R_alloc | apply Kd.R_drewN | apply Kd.R_drew)); exact HO_8.out) hb); have n1_ := Aside0.mk (Kd.S_below (by (with_reducible repeat (first | apply Kd.S_alloc | apply Kd.S_drewN | apply Kd.S_drew)); exact HO_33.out) hb); have n2_ := Aside0.mk (Kd.R_below (by (with_reducible repeat (first | apply Kd.R_alloc | apply Kd.R_drewN | apply Kd.R_drew)); exact HL311_0.out) hb); have n3_ := Aside0.mk (blk_below (g := gb316) (o := .cells #[.string ((rd_T38 l1 (rd (rd_L5 t308 x35_2) 0)).f0), .string ((rd_T38 l1 (rd (rd_L5 t308 x35_2) 0)).f1), .int .i64 ((rd_T38 l1 (rd (rd_L5 t308 x35_2) 0)).f2)] 38 (0, 0)) (by (with_reducible repeat (first | refine blk_drewN ?_ _ | refine blk_drew ?_ | refine blk_alloc ?_ _)); exact BK316.out) hb); have n4_ := Aside0.mk (blk_below (g := gb317) (o := .cells #[.string ((rd_T36 l0 (rd (rd_L5 t308 x35_2) 1)).f0), .int .i64 ((rd_T36 l0 (rd (rd_L5 t308 x35_2) 1)).f1), .int .i64 ((rd_T36 l0 (rd (rd_L5 t308 x35_2) 1)).f2)] 36 (0, 0)) (by (with_reducible repeat (first | refine blk_drewN ?_ _ | refine blk_drew ?_ | refine blk_alloc ?_ _)); exact BK317.out) hb); have n5_ := Aside0.mk (blk_below (g := gb319) (o := .cells #[.string ((rd_T38 l1 (rd (rd_L5 t308 x35_2) 0)).f1), .int .i64 (wrap64 (t318 + ((rd_T38 l1 (rd (rd_L5 t308 x35_2) 0)).f2))), .int .i64 a2] 36 (0, 0)) (by (with_reducible repeat (first | refine blk_drewN ?_ _ | refine blk_drew ?_ | refine blk_alloc ?_ _)); exact BK319.out) hb); have n6_ := Aside0.mk (below_step (by repeat (first | (with_reducible first | exact HB.out | apply below_alloc | apply pw_below_drewN | apply below_drew1 | refine below_set ?_ GE316.out | refine below_set ?_ GE317.out | refine below_set ?_ GE319.out) | exact HB.out)) hb); clear HO_8; clear HO_33; clear HL311_0; clear BK316; clear BK317; clear BK319; clear HB; have HO_8 := n0_; have HO_33 := n1_; have HL311_0 := n2_; have BK316 := n3_; have BK317 := n4_; have BK319 := n5_; have HB := n6_; clear n0_ n1_ n2_ n3_ n4_ n5_ n6_; (try clear hb); (try clear hb2); (try clear hk); (try clear hi); have hcz85_0 : w84.cell? ⟨gb319, 0, none⟩ = some (.string ((rd_T38 l1 (rd (rd_L5 t308 x35_2) 0)).f1)) := (blk_cell BK319.out 0).trans rfl; have hcz85_1 : w84.cell? ⟨gb319, 1, none⟩ = some (.int .i64 (wrap64 (t318 + ((rd_T38 l1 (rd (rd_L5 t308 x35_2) 0)).f2)))) := (blk_cell BK319.out 1).trans rfl; have hcz85_2 : w84.cell? ⟨gb319, 2, none⟩ = some (.int .i64 a2) := (blk_cell BK319.out 2).trans rfl; have hfz85_0 := blk_frozen BK319.out 0; have hfz85_1 := blk_frozen BK319.out 1; have hfz85_2 := blk_frozen BK319.out 2) | ((with_reducible refine gate_dst (N := 78) rfl ?_); refine Kd.R_lit k36 _ 36 ?hg (N := 78) ?hd (xs := ([(⟨(rd_T38 l1 (rd (rd_L5 t308 x35_2) 0)).f1, wrap64 (t318 + ((rd_T38 l1 (rd (rd_L5 t308 x35_2) 0)).f2)), a2⟩ : S36)] : List (S36))) (inner := [.string ((rd_T38 l1 (rd (rd_L5 t308 x35_2) 0)).f1), .int .i64 (wrap64 (t318 + ((rd_T38 l1 (rd (rd_L5 t308 x35_2) 0)).f2))), .int .i64 a2]) (ok := fun _ => True) (okp := fun _ => True) ?hr ?hp (fun _ hk => hk) trivial (Below.refl _ _) (Nat.le_refl _) (by simp) ?_; (case hd => rfl); (case hg => rfl); (case hr => first | (go_simp; done) | (go_simp; rfl)); (case hp => exact (Reps.c3 (show Kd.M k36 _ _ _ (⟨(rd_T38 l1 (rd (rd_L5 t308 x35_2) 0)).f1, wrap64 (t318 + ((rd_T38 l1 (rd (rd_L5 t308 x35_2) 0)).f2)), a2⟩ : S36) [.string ((rd_T38 l1 (rd (rd_L5 t308 x35_2) 0)).f1), .int .i64 (wrap64 (t318 + ((rd_T38 l1 (rd (rd_L5 t308 x35_2) 0)).f2))), .int .i64 a2] from (k36_mkM _ _ _ (⟨(rd_T38 l1 (rd (rd_L5 t308 x35_2) 0)).f1, wrap64 (t318 + ((rd_T38 l1 (rd (rd_L5 t308 x35_2) 0)).f2)), a2⟩ : S36) )) (Reps.none _ _))); intro v325 w86 ho87 hb hg_ hnew_; clear hg_ hnew_; (first | rw [← Ny324.out] at ho87 | (simp only [Int.reduceToNat] at ho87; rw [← Ny324.out] at ho87)); have n0_ := Aside0.mk (Kd.R_elder' (by (with_reducible repeat (first | apply Kd.R_alloc | apply Kd.R_drewN | apply Kd.R_drew)); exact HO_8.out) (Kd.R_base ho87) hb); have n1_ := Aside0.mk (Kd.S_below (by (with_reducible repeat (first | apply Kd.S_alloc | apply Kd.S_drewN | apply Kd.S_drew)); exact HO_33.out) hb); have n2_ := Aside0.mk (Kd.R_below (by (with_reducible repeat (first | apply Kd.R_alloc | apply Kd.R_drewN | apply Kd.R_drew)); exact HL311_0.out) hb); have n3_ := Aside0.mk (Kd.R_lower (Kd.R_newB (Kd.R_newB (Kd.R_new' ho87 (Kd.R_lt (by (with_reducible repeat (first | apply Kd.R_alloc | apply Kd.R_drewN | apply Kd.R_drew)); exact HO_8.out))) (g := gb317) (o := .cells #[.string ((rd_T36 l0 (rd (rd_L5 t308 x35_2) 1)).f0), .int .i64 ((rd_T36 l0 (rd (rd_L5 t308 x35_2) 1)).f1), .int .i64 ((rd_T36 l0 (rd (rd_L5 t308 x35_2) 1)).f2)] 36 (0, 0)) (by (with_reducible repeat (first | refine blk_drewN ?_ _ | refine blk_drew ?_ | refine blk_alloc ?_ _)); exact BK317.out)) (g := gb319) (o := .cells #[.string ((rd_T38 l1 (rd (rd_L5 t308 x35_2) 0)).f1), .int .i64 (wrap64 (t318 + ((rd_T38 l1 (rd (rd_L5 t308 x35_2) 0)).f2))), .int .i64 a2] 36 (0, 0)) (by (with_reducible repeat (first | refine blk_drewN ?_ _ | refine blk_drew ?_ | refine blk_alloc ?_ _)); exact BK319.out)) (below_size (by repeat (first | (with_reducible first | exact HB.out | apply below_alloc | apply pw_below_drewN | apply below_drew1 | refine below_set ?_ GE316.out | refine below_set ?_ GE317.out | refine below_set ?_ GE319.out) | exact HB.out)))); have n4_ := Aside0.mk (blk_below (g := gb316) (o := .cells #[.string ((rd_T38 l1 (rd (rd_L5 t308 x35_2) 0)).f0), .string ((rd_T38 l1 (rd (rd_L5 t308 x35_2) 0)).f1), .int .i64 ((rd_T38 l1 (rd (rd_L5 t308 x35_2) 0)).f2)] 38 (0, 0)) (by (with_reducible repeat (first | refine blk_drewN ?_ _ | refine blk_drew ?_ | refine blk_alloc ?_ _)); exact BK316.out) hb); have n5_ := Aside0.mk (blk_below (g := gb317) (o := .cells #[.string ((rd_T36 l0 (rd (rd_L5 t308 x35_2) 1)).f0), .int .i64 ((rd_T36 l0 (rd (rd_L5 t308 x35_2) 1)).f1), .int .i64 ((rd_T36 l0 (rd (rd_L5 t308 x35_2) 1)).f2)] 36 (0, 0)) (by (with_reducible repeat (first | refine blk_drewN ?_ _ | refine blk_drew ?_ | refine blk_alloc ?_ _)); exact BK317.out) hb); have n6_ := Aside0.mk (blk_below (g := gb319) (o := .cells #[.string ((rd_T38 l1 (rd (rd_L5 t308 x35_2) 0)).f1), .int .i64 (wrap64 (t318 + ((rd_T38 l1 (rd (rd_L5 t308 x35_2) 0)).f2))), .int .i64 a2] 36 (0, 0)) (by (with_reducible repeat (first | refine blk_drewN ?_ _ | refine blk_drew ?_ | refine blk_alloc ?_ _)); exact BK319.out) hb); have n7_ := Aside0.mk (below_step (by repeat (first | (with_reducible first | exact HB.out | apply below_alloc | apply pw_below_drewN | apply below_drew1 | refine below_set ?_ GE316.out | refine below_set ?_ GE317.out | refine below_set ?_ GE319.out) | exact HB.out)) hb); clear HO_8; clear HO_33; clear HL311_0; clear BK316; clear BK317; clear BK319; clear HB; have HO_8 := n0_; have HO_33 := n1_; have HL311_0 := n2_; have HO326 := n3_; have BK316 := n4_; have BK317 := n5_; have BK319 := n6_; have HB := n7_; clear n0_ n1_ n2_ n3_ n4_ n5_ n6_ n7_; clear hb ho87; obtain ⟨Ao88, co88, eo88⟩ := Kd.R_slice HO326.out; subst eo88) | ((with_reducible refine gate_callee (f := 50) rfl ?_); refine goesL_ (some 79) rfl rfl Try.func50 (by kernel_rfl) rfl #[.slice Ao79 x8_2.length co79, .int .i64 t322, .slice Ao88 y324.length co88] rfl (by (try simp only [List.map_toArray, List.map_cons, List.map_nil]); first | done | rfl | (simp only [List.length_drop, List.length_take]; rfl)) ?_; (with_reducible refine (impl_Turn_50.calls (fun k_ => some k_ = (.slice Ao79 x8_2.length co79 : Value).ownBlock) (.slice Ao79 x8_2.length co79) x8_2 t322 (fun k_ => some k_ = (.slice Ao88 y324.length co88 : Value).ownBlock) (.slice Ao88 y324.length co88) y324 t327 w _ ?side1 ?side2 ?side3 ?side4 ?side5 A57.out).mono ?_); (case side1 => repeat (first | (with_reducible first | exact HB.out | apply below_alloc | apply pw_below_drewN | apply below_drew1 | refine below_set ?_ GE316.out | refine below_set ?_ GE317.out | refine below_set ?_ GE319.out) | exact HB.out)); (case side2 => exact Kd.R_tight rfl HO_8.out); (case side3 => exact fun k_ e_ => (HO_8.out.1 k_ e_.symm).2); (case side4 => exact Kd.R_tight rfl HO326.out); (case side5 => exact fun k_ e_ => (HO326.out.1 k_ e_.symm).1.1.2); rintro e w89 ⟨v328, rfl, ho0, hb, hkp⟩; refine ⟨_, rfl, ?_⟩; have n0_ := Aside0.mk (Kd.S_mono (ok' := fun k_ => True) (Kd.S_keptB ((Kd.S_apart' (Kd.S_apart' HO_33.out (Kd.R_typed HO_8.out) (by decide)) (Kd.R_typed HO326.out) (by decide))) hkp (fun k_ hk_ hs_ => Or.elim hs_ (fun e_ => (hk_.1.2) e_) (fun e_ => (hk_.2) e_))) (fun k_ hk_ => trivial)); have n1_ := Aside0.mk (blk_kept (by (with_reducible repeat (first | refine blk_drewN ?_ _ | refine blk_drew ?_ | refine blk_alloc ?_ _)); exact BK316.out) hkp (fun hs_ => Or.elim hs_ (fun e_ => (fun e_ => (Kd.R_ne HO_8.out BK316.out (by decide)) e_) e_) (fun e_ => (fun e_ => (Kd.R_ne HO326.out BK316.out (by decide)) e_) e_))); have n2_ := Aside0.mk (blk_kept (by (with_reducible repeat (first | refine blk_drewN ?_ _ | refine blk_drew ?_ | refine blk_alloc ?_ _)); exact BK317.out) hkp (fun hs_ => Or.elim hs_ (fun e_ => (fun e_ => (Kd.R_away HO_8.out (fun _ hk => hk.1.1)) e_) e_) (fun e_ => (fun e_ => (Kd.R_away HO326.out (fun _ hk => hk.1.2)) e_) e_))); have n3_ := Aside0.mk (blk_kept (by (with_reducible repeat (first | refine blk_drewN ?_ _ | refine blk_drew ?_ | refine blk_alloc ?_ _)); exact BK319.out) hkp (fun hs_ => Or.elim hs_ (fun e_ => (fun e_ => (Kd.R_away HO_8.out (fun _ hk => hk.1.2)) e_) e_) (fun e_ => (fun e_ => (Kd.R_away HO326.out (fun _ hk => hk.2)) e_) e_))); have n4_ := Aside0.mk (Kd.R_mono (ok' := fun k_ => k_ ≠ gb317 ∧ k_ ≠ gb319) ho0 (fun k_ hk_ => ⟨Or.elim hk_ (fun hs_ => Or.elim hs_ (fun hs_ => fun e_ => (Kd.R_away HO_8.out (fun _ hk => hk.1.1)) (by rw [← e_]; exact hs_)) (fun hs_ => fun e_ => (Kd.R_away HO326.out (fun _ hk => hk.1.2)) (by rw [← e_]; exact hs_))) (fun hn_ => (Kd.freshB (g := gb317) (o := .cells #[.string ((rd_T36 l0 (rd (rd_L5 t308 x35_2) 1)).f0), .int .i64 ((rd_T36 l0 (rd (rd_L5 t308 x35_2) 1)).f1), .int .i64 ((rd_T36 l0 (rd (rd_L5 t308 x35_2) 1)).f2)] 36 (0, 0)) (by (with_reducible repeat (first | refine blk_drewN ?_ _ | refine blk_drew ?_ | refine blk_alloc ?_ _)); exact BK317.out) k_ hn_)), Or.elim hk_ (fun hs_ => Or.elim hs_ (fun hs_ => fun e_ => (Kd.R_away HO_8.out (fun _ hk => hk.1.2)) (by rw [← e_]; exact hs_)) (fun hs_ => fun e_ => (Kd.R_away HO326.out (fun _ hk => hk.2)) (by rw [← e_]; exact hs_))) (fun hn_ => (Kd.freshB (g := gb319) (o := .cells #[.string ((rd_T38 l1 (rd (rd_L5 t308 x35_2) 0)).f1), .int .i64 (wrap64 (t318 + ((rd_T38 l1 (rd (rd_L5 t308 x35_2) 0)).f2))), .int .i64 a2] 36 (0, 0)) (by (with_reducible repeat (first | refine blk_drewN ?_ _ | refine blk_drew ?_ | refine blk_alloc ?_ _)); exact BK319.out) k_ hn_))⟩)); have n5_ := Aside0.mk (hb); clear HO_33; clear BK316; clear BK317; clear BK319; clear HB; clear HO326; clear HO_8; clear HL311_0; have HO_33 := n0_; have BK316 := n1_; have BK317 := n2_; have BK319 := n3_; have HO329 := n4_; have HB := n5_; clear n0_ n1_ n2_ n3_ n4_ n5_; (try clear hb); (try clear hkp); (try clear ho0)))
 go_roundg k2
 case measure => have := HJ3.out; have := HK2.out; omega
 case rel => exact ⟨(t327), (wrap64 (x35_2 + 1)), (by first | rfl | (simp; done) | (simp [*]; done)), H', ⟨by have := HJ3.out; have := HK2.out; omega⟩, ⟨by (with_reducible repeat (first | apply Kd.R_alloc | apply Kd.R_drewN | apply Kd.R_drew)); exact Kd.R_mono HO329.out (fun _ hk => trivial)⟩, ⟨by (with_reducible repeat (first | apply Kd.S_alloc | apply Kd.S_drewN | apply Kd.S_drew)); exact HO_33.out⟩, ⟨by repeat (first | (with_reducible first | exact HB.out | apply below_alloc | apply pw_below_drewN | apply below_drew1 | refine below_set ?_ GE316.out | refine below_set ?_ GE317.out | refine below_set ?_ GE319.out) | exact HB.out)⟩⟩
 }
 {
 replace c55 := Bool.eq_false_iff.mpr c55
 subst c55
 have H1 : (none) = some (r1, r2) := by rw [if_neg (show ¬ (false = true) by decide)] at H; exact H
 clear H
 have H := H1
 clear H1
 exact absurd H (by simp)
 }
 }
 }
 {
 rw [if_neg c27] at H
 exact absurd H (by simp)
 }
 }
 {
 rw [if_neg c26] at H
 exact absurd H (by simp)
 }
 }
 {
 rw [if_neg c25] at H
 exact absurd H (by simp)
 }
 }
 {
 rw [if_neg c24] at H
 exact absurd H (by simp)
 }
 }
 {
 rw [if_neg c23] at H
 exact absurd H (by simp)
 }
 }
 {
 rw [if_neg c22] at H
 exact absurd H (by simp)
 }
 }
 {
 rw [if_neg c21] at H
 exact absurd H (by simp)
 }
 }
 {
 rw [if_neg c20] at H
 exact absurd H (by simp)
 }
 }
 {
 rw [if_neg c19] at H
 have c19b0 : decide (x35_2 < (t308.length : Int)) = false := decide_eq_false c19
 clear c19
 by_cases c90 : (x8_2.length : Int) > 24
 {
 rw [if_pos c90] at H
 exact absurd H (by simp)
 }
 {
 rw [if_neg c90] at H
 have c90b0 : decide (24 < (x8_2.length : Int)) = false := decide_eq_false c90
 have c90b1 : decide (24 < x8_2.length) = false := decide_eq_false (by omega)
 clear c90
 simp only [Option.some.injEq, Prod.mk.injEq] at H
 obtain ⟨rfl, rfl⟩ := H
 obtain ⟨Ao91, co91, eo91⟩ := Kd.R_slice HO_8.out
 subst eo91
 go_wp2
 go_ret2
 exact ⟨_, by first | rfl | (simp [errW_none, errW_some] <;> rfl) | (simp [*, errW_none, errW_some] <;> rfl), by (with_reducible repeat (first | apply Kd.R_alloc | apply Kd.R_drewN | apply Kd.R_drew)); exact HO_8.out, by repeat (first | (with_reducible first | exact HB.out | apply below_alloc | apply pw_below_drewN | apply below_drew1) | exact HB.out)⟩
 }
 }
  }
  }
 }
 {
 replace c13 := Bool.eq_false_iff.mpr c13
 subst c13
 have H1 : (none) = some (r1, r2) := by rw [if_neg (show ¬ (false = true) by decide)] at H; exact H
 clear H
 have H := H1
 clear H1
 exact absurd H (by simp)
 }
 }
  }
  }
end Go.Proofs.Ytcgkmdmbjffipaa.P
