/- The texts LawFnExactRelationOf, one behind the other: what functions of the program, its reference and its laws come to, and what follows. No condition beyond what each theorem names. -/
import Derived.Test.YtfjnjcefcoboaaaRows
import Derived.Test.YtfjnjcefcoboaaaZRelationOf3
import Derived.Test.YtfjnjcefcoboaaaZRelationOf4
import Derived.WalkKit
import Derived.ProofKit
import Derived.OpenShut
import Derived.ShutString
import Derived.ChangeOld
import Derived.Below
import Derived.SizedLaws
/- The row of the law FnExactRelationOf, out of its plain statement (Pure) and the walk. No condition. -/
namespace Go.Proofs.Ytfjnjcefcoboaaa.fnExactRelationOf
open Go.ChangeShapes Go.WideShapes Go.ChangeAt Go.RowKit Go.Proofs.YtfjnjcefcoboaaaW.PrintWords Go.Proofs.Ytfjnjcefcoboaaa.P
open Go.ChangeMaps (open_string shut_string)
set_option linter.unusedVariables false
theorem own : ownKnob Try.prog.godebug = none := by kernel_rfl
theorem laidOut : laidOutB Try.prog = true := by kernel_rfl
theorem cells34 : Try.prog.cellsOf 34 = 3 := by kernel_rfl
theorem cells2 : Try.prog.cellsOf 2 = 1 := by kernel_rfl
theorem cells9 : Try.prog.cellsOf 9 = 1 := by kernel_rfl
theorem cells32 : Try.prog.cellsOf 32 = 1 := by kernel_rfl
theorem rd_T34 : Rd Try.prog k34 34 ok_T34 := by
  intro H enc w base sp held fuel cs x h
  obtain ⟨xs, n, _, _, hl, hlen, hf⟩ := DataW.trod_struct Try.underlying34 h
  rw [cells34] at hl
  rcases cs with _ | ⟨c0, _ | ⟨c1, _ | ⟨c2, _ | ⟨_, _⟩⟩⟩⟩ <;> first | (simp at hl; done) | skip
  have g0 : DataW.trod enc Try.prog w base sp held n 9 [c0] = xs[0]? := by
    have z : DataW.trod enc Try.prog w base sp held n 9 (List.take (Try.prog.cellsOf 9) (List.drop 0 [c0, c1, c2])) = xs[0]? := hf 0 _ rfl
    rw [cells9] at z
    exact z
  have g1 : DataW.trod enc Try.prog w base sp held n 2 [c1] = xs[1]? := by
    have z : DataW.trod enc Try.prog w base sp held n 2 (List.take (Try.prog.cellsOf 2) (List.drop 1 [c0, c1, c2])) = xs[1]? := hf 1 _ rfl
    rw [cells2] at z
    exact z
  have g2 : DataW.trod enc Try.prog w base sp held n 32 [c2] = xs[2]? := by
    have z : DataW.trod enc Try.prog w base sp held n 32 (List.take (Try.prog.cellsOf 32) (List.drop 2 [c0, c1, c2])) = xs[2]? := hf 2 _ rfl
    rw [cells32] at z
    exact z
  obtain ⟨y0, hy0⟩ : ∃ y, xs[0]? = some y := ⟨_, List.getElem?_eq_getElem (by rw [hlen]; decide)⟩
  rw [hy0] at g0
  obtain ⟨b0, q0, o0⟩ := (rd_string Try.underlying9) H enc w base sp held n [c0] _ g0
  obtain rfl : c0 = .string b0 := by injection q0
  obtain ⟨y1, hy1⟩ : ∃ y, xs[1]? = some y := ⟨_, List.getElem?_eq_getElem (by rw [hlen]; decide)⟩
  rw [hy1] at g1
  obtain ⟨b1, q1, o1⟩ := (rd_int Try.underlying2) H enc w base sp held n [c1] _ g1
  obtain rfl : c1 = .int .i64 b1 := by injection q1
  obtain ⟨y2, hy2⟩ : ∃ y, xs[2]? = some y := ⟨_, List.getElem?_eq_getElem (by rw [hlen]; decide)⟩
  rw [hy2] at g2
  obtain ⟨b2, q2, o2⟩ := (rd_slice Try.underlying32 (rd_string Try.underlying9) (by kernel_rfl)) H enc w base sp held n [c2] _ g2
  obtain ⟨A2, d2, e2, l2, r2⟩ := q2
  obtain rfl : c2 = _ := by injection e2
  exact ⟨(⟨b0, b1, b2⟩ : S34), k34_mk w (⟨b0, b1, b2⟩ : S34) l2 r2, o0, o1, o2⟩
set_option maxRecDepth 100000 in
theorem lifted (os : Os) (started : os.Started) (H : Type) (enc : TypeId × Value → H) :
    ReturnsInHanded {} Try.checked os 4 .any (Rows.fnExactRelationOfSpec.pre6 enc Try.prog Try.f4 Rows.fnExactRelationOfRow.domain false) (Rows.fnExactRelationOfSpec.post enc Try.prog Try.f4 false true false false) := by
  refine returnsInHanded_of_change_sized (C := Try.checked) own started (by kernel_rfl) Try.func4
    (ChangeSpec.witness6 (enc := enc) (C := Try.checked) false ⟨#[], #[.slice none 0 0, .string ByteArray.empty, .string ByteArray.empty], []⟩ 8 (by kernel_rfl) (by kernel_rfl) (by kernel_rfl) (by kernel_rfl)) ?_
  intro W base args ds gs before hval0 hW hcnd hsz0 _
  have hval : ∀ (j : Nat) t v, Try.f4.params[j]? = some t → args[j]? = some v → Value.okWide Try.prog W .any base t v := hval0
  have hW' := hW
  obtain ⟨p, q, hA0, hV, rfl, hfz, hnd⟩ := hW
  have hA : DataW.TrodAll enc Try.prog W 0 (fun _ => true) true Try.f4.params.toList args.toList ds p := hA0
  rw [Try.params4] at hA hval
  obtain ⟨v0, vs0, d0, ds0, p0, q0, hargs, rfl, rfl, h0, r0⟩ := trodAll_cons hA
  obtain ⟨v1, vs1, d1, ds1, p1, q1, rfl, rfl, rfl, h1, r1⟩ := trodAll_cons r0
  obtain ⟨v2, vs2, d2, ds2, p2, q2, rfl, rfl, rfl, h2, r2⟩ := trodAll_cons r1
  obtain ⟨rfl, rfl, rfl⟩ := trodAll_nil r2
  obtain rfl : args = #[v0, v1, v2] := by cases args; simp_all
  obtain ⟨rfl, rfl⟩ := trodVars_none hV
  obtain ⟨a0, len0, cap0, rfl⟩ := okWide_slice Try.underlying22 (hval 0 22 v0 rfl rfl)
  have k0 := h0
  have lt0 : ∀ x ∈ p0, x.block < W.heap.size := by obtain ⟨m, hm⟩ := k0; exact DataW.trod_lt m _ _ _ hm
  obtain ⟨fuel0, hf0⟩ := h0
  obtain ⟨l0, ⟨A0, c0, e0, hc0, hr0⟩, ho0⟩ := (rd_slice Try.underlying22 rd_T34 (by kernel_rfl)) H enc W _ _ _ _ _ _ hf0
  simp [Value.cells] at e0
  obtain ⟨rfl, rfl, rfl⟩ := e0
  obtain ⟨a1, rfl, rfl, rfl, ho1⟩ := open_string Try.underlying9 (hval 1 9 v1 rfl rfl) h1
  obtain ⟨a2, rfl, rfl, rfl, ho2⟩ := open_string Try.underlying9 (hval 2 9 v2 rfl rfl) h2
  clear hA0 hval0 hsz0
  refine (laws_FnExactRelationOf.walk Pure.FnExactRelationOf _ _ l0 a1 a2 W hr0 hc0 ho0 ho1 ho2).mono fun e W' ⟨he, bel⟩ => ?_
  subst he
  exact ⟨_, rfl, _, _, _, [], _, [], hW', trodAll_mk1 (shut_bool Try.underlying4 _), (trodAll_cons_mk (Below.trod laidOut (by kernel_rfl) (of_decide_eq_true (by kernel_rfl)) k0 bel lt0) (trodAll_cons_mk (shut_string Try.underlying9 ho1) (trodAll_cons_mk (shut_string Try.underlying9 ho2) trodAll_mk0))), rfl, bel.frame _, fun h => by cases h⟩
theorem over : Rows.fnExactRelationOfRow.holds Try.pinned (OpenSpec.ofChange Rows.fnExactRelationOfSpec) :=
  OpenClaim.holds_of_wide 4 Try.f4 rfl rfl rfl rfl rfl rfl rfl ⟨rfl, rfl, rfl, rfl, rfl⟩ rfl rfl rfl rfl rfl (by kernel_rfl) Try.func4 (by kernel_rfl)
    (of_decide_eq_true (by kernel_rfl)) (by unfold Func.isWrapper; first | (rw [if_pos (by decide +kernel)]; kernel_rfl) | (rw [if_neg (by decide +kernel)]; exact ⟨rfl, rfl⟩))
    (fun os started H enc _ => lifted os started H enc)
theorem proved : Rows.FnExactRelationOfSaid := over
#print axioms proved
end Go.Proofs.Ytfjnjcefcoboaaa.fnExactRelationOf
namespace Go.Proofs.Ytfjnjcefcoboaaa
/-- The row, under a short name, for the claim. -/
theorem fnExactRelationOf_holds : Rows.FnExactRelationOfSaid := fnExactRelationOf.proved
end Go.Proofs.Ytfjnjcefcoboaaa
