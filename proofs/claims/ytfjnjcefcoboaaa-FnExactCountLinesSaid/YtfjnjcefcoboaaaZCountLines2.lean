/- The texts Px30 to YR, one behind the other: what functions of the program, its reference and its laws come to, and what follows. No condition beyond what each theorem names. -/
import Derived.Test.YtfjnjcefcoboaaaZCountLines0
import Derived.Test.YtfjnjcefcoboaaaZCountLines1
import Derived.Maps.Own
import Derived.Maps.OwnOps
import Derived.Maps.OwnSet
import Derived.Maps.Views
import Derived.StringKeys
import Derived.Lib.Hide
import Derived.Outline
import Derived.Deep.Slices
import Derived.Deep.Strs
import Derived.Carry
-- printed by a program of this session out of the translation
namespace Go.Proofs.Ytfjnjcefcoboaaa.P
open Go.RowKit Go.Proofs.YtfjnjcefcoboaaaW.PrintWords Go.Proofs.YtfjnjcefcoboaaaW.PrintLast Go.Proofs.YtfjnjcefcoboaaaW.PrintMore
attribute [local go_sem] max2_int min2_int max_two min_two max_three min_three max_four min_four   -- for this text's walks alone
set_option linter.unusedVariables false
set_option linter.unusedSimpArgs false

/-! ### impl_personsCode: function 35 -/
def impl_personsCode.f (k : Nat) (l0 : List (S38)) (l1 : List ByteArray) : Option (Int) := (impl_ValidPersons.f k l0).bind fun t196 => (if t196 = true then ((slices_ContainsFunc_string_string_at_impl_personsCode_1.f k l1 l0).bind fun t197 => (if t197 = true then (some 3) else (some 0))) else (some 1))
theorem impl_personsCode.mono : ∀ a0 a1 k, LeO (impl_personsCode.f k a0 a1) (impl_personsCode.f (k + 1) a0 a1) := by
  intro a0 a1 k
  unfold impl_personsCode.f
  repeat' first
      | (with_reducible exact impl_ValidPersons.mono _ _)
      | (with_reducible exact slices_ContainsFunc_string_string_at_impl_personsCode_1.mono _ _ _)
      | (with_reducible exact LeO.refl _)
      | (with_reducible exact LeO.none _)
      | (with_reducible refine LeO.ite ?_ ?_)
      | (with_reducible refine LeO.bind ?_ (fun _ => ?_))
      | exact impl_ValidPersons.mono _ _
      | exact slices_ContainsFunc_string_string_at_impl_personsCode_1.mono _ _ _
      | exact LeO.none _
      | refine LeO.ite ?_ ?_
      | refine LeO.bind ?_ (fun _ => ?_)
set_option maxHeartbeats 8000000 in
set_option maxRecDepth 100000 in
theorem impl_personsCode.calls (k : Nat) (A0 : Option Addr) (c0 : Nat) (l0 : List (S38)) (A1 : Option Addr) (c1 : Nat) (l1 : List ByteArray) (r : Int) (w : World) (hr0 : Kd.C k38 w A0 l0.length l0) (hc0 : l0.length ≤ c0) (hr1 : Kd.C Kd.string w A1 l1.length l1) (hc1 : l1.length ≤ c1) (h : impl_personsCode.f k l0 l1 = some r) :
    Calls Try.prog 35 #[.slice A0 l0.length c0, .slice A1 l1.length c1] w fun e w' => e = .returned (.int .i64 r) ∧ Below w.heap.size w w' := by
  have HR0 := Aside0.mk hr0
  have HC0 := Aside0.mk hc0
  clear hr0 hc0
  have HR1 := Aside0.mk hr1
  have HC1 := Aside0.mk hc1
  clear hr1 hc1
  have HB := Aside0.mk (Below.refl w.heap.size w)
  have H : ((impl_ValidPersons.f k l0).bind fun t196 => (if t196 = true then ((slices_ContainsFunc_string_string_at_impl_personsCode_1.f k l1 l0).bind fun t197 => (if t197 = true then (some 3) else (some 0))) else (some 1))) = some r := h
  clear h
  replace H := Option.bind_eq_some_iff.mp H
  obtain ⟨t196, A30, H⟩ := H
  replace H : (if t196 = true then ((slices_ContainsFunc_string_string_at_impl_personsCode_1.f k l1 l0).bind fun t197 => (if t197 = true then (some 3) else (some 0))) else (some 1)) = some r := H
  have A3 := Aside0.mk A30
  clear A30
  by_cases c4 : t196 = true
  · subst c4
    have H1 : ((slices_ContainsFunc_string_string_at_impl_personsCode_1.f k l1 l0).bind fun t197 => (if t197 = true then (some 3) else (some 0))) = some r := by rw [if_pos rfl] at H; exact H
    clear H
    have H := H1
    clear H1
    replace H := Option.bind_eq_some_iff.mp H
    obtain ⟨t197, A50, H⟩ := H
    replace H : (if t197 = true then (some 3) else (some 0)) = some r := H
    have A5 := Aside0.mk A50
    clear A50
    by_cases c6 : t197 = true
    · subst c6
      have H1 : (some 3) = some r := by rw [if_pos rfl] at H; exact H
      clear H
      have H := H1
      clear H1
      obtain rfl := Option.some.inj H
      go_enter Try.func35, Try.ntmps35
      go_wp2_with (first | ((with_reducible refine gate_dst (N := 2) rfl ?_); refine box_event ?hg (N := 2) ?hd (cs := #[.slice A0 l0.length c0]) (t := 26) ?hr ?_; (case hd => rfl); (case hg => rfl); (case hr => first | (go_simp; done) | (go_simp; rfl)); intro gb195 hg w7 hbox hb; have n0_ := Aside0.mk (below_step (by repeat (first | (with_reducible first | exact HB.out | apply below_alloc | apply pw_below_drewN | apply below_drew1) | exact HB.out)) hb); have n1_ := Aside0.mk (hbox); have n2_ := Aside0.mk ((by rw [hg]; exact (below_size (by repeat (first | (with_reducible first | exact HB.out | apply below_alloc | apply pw_below_drewN | apply below_drew1) | exact HB.out))) : w.heap.size ≤ gb195)); have n3_ := Aside0.mk ((by rw [hg]; exact (below_size (by repeat (first | (with_reducible first | exact HB.out | apply below_alloc | apply pw_below_drewN | apply below_drew1) | exact HB.out))) : w.heap.size ≤ gb195)); clear HB; have HB := n0_; have BK195 := n1_; have GW195 := n2_; have GE195 := n3_; clear n0_ n1_ n2_ n3_; clear hb hbox hg; have hcz8_0 : w7.cell? ⟨gb195, 0, none⟩ = some (.slice A0 l0.length c0) := (blk_cell BK195.out 0).trans rfl; have hfz8_0 := blk_frozen BK195.out 0) | ((with_reducible refine gate_callee (f := 44) rfl ?_); refine goesL_ (some 7) rfl rfl Try.func44 (by kernel_rfl) rfl #[.slice A0 l0.length c0] rfl (by (try simp only [List.map_toArray, List.map_cons, List.map_nil]); first | done | rfl | (simp only [List.length_drop, List.length_take]; rfl)) ?_; (with_reducible refine (impl_ValidPersons.calls k _ _ l0 true _ ?side1 ?side2 A3.out).mono ?_); (case side1 => repeat (first | exact (Kd.C_below HR0.out HB.out) | (with_reducible refine Kd.C_alloc ?_ _) | (with_reducible refine Kd.C_drewN ?_ _) | (with_reducible refine Kd.C_drew ?_))); (case side2 => exact HC0.out); rintro e w9 ⟨rfl, hb⟩; refine ⟨_, rfl, ?_⟩; have n0_ := Aside0.mk (blk_below (g := gb195) (o := .cells #[.slice A0 l0.length c0] 26 (0, 0)) (by (with_reducible repeat (first | refine blk_drewN ?_ _ | refine blk_drew ?_ | refine blk_alloc ?_ _)); exact BK195.out) hb); have n1_ := Aside0.mk (below_step (by repeat (first | (with_reducible first | exact HB.out | apply below_alloc | apply pw_below_drewN | apply below_drew1 | refine below_set ?_ GE195.out) | exact HB.out)) hb); clear BK195; clear HB; have BK195 := n0_; have HB := n1_; clear n0_ n1_; (try clear hb); (try clear hb2); (try clear hk); (try clear hi)) | (go_at_call 63; (with_reducible refine (slices_ContainsFunc_string_string_at_impl_personsCode_1.calls k _ _ l1 _ l0 true _ ?side1 ?side2 ?side3 A5.out).mono ?_); (case side1 => repeat (first | exact (Kd.C_below HR1.out HB.out) | (with_reducible refine Kd.C_alloc ?_ _) | (with_reducible refine Kd.C_drewN ?_ _) | (with_reducible refine Kd.C_drew ?_))); (case side2 => exact HC1.out); (case side3 => refine Kd.C_of_block (cs := #[.slice A0 l0.length c0]) (t := 26) (by (with_reducible repeat (first | refine blk_drewN ?_ _ | refine blk_drew ?_ | refine blk_alloc ?_ _)); exact BK195.out) ?_ rfl; exact ⟨_, _, rfl, (by exact HC0.out), (by repeat (first | exact (Kd.C_below HR0.out HB.out) | (with_reducible refine Kd.C_alloc ?_ _) | (with_reducible refine Kd.C_drewN ?_ _) | (with_reducible refine Kd.C_drew ?_)))⟩); rintro e w10 ⟨rfl, hb⟩; have n0_ := Aside0.mk (blk_below (g := gb195) (o := .cells #[.slice A0 l0.length c0] 26 (0, 0)) (by (with_reducible repeat (first | refine blk_drewN ?_ _ | refine blk_drew ?_ | refine blk_alloc ?_ _)); exact BK195.out) hb); have n1_ := Aside0.mk (below_step (by repeat (first | (with_reducible first | exact HB.out | apply below_alloc | apply pw_below_drewN | apply below_drew1 | refine below_set ?_ GE195.out) | exact HB.out)) hb); clear BK195; clear HB; have BK195 := n0_; have HB := n1_; clear n0_ n1_; (try clear hb); (try clear hb2); (try clear hk); (try clear hi)))
      go_ret
      exact ⟨by first | rfl | (simp [errW_none, errW_some] <;> rfl) | (simp [*, errW_none, errW_some] <;> rfl), by repeat (first | (with_reducible first | exact HB.out | apply below_alloc | apply pw_below_drewN | apply below_drew1 | refine below_set ?_ GE195.out) | exact HB.out)⟩
    · replace c6 := Bool.eq_false_iff.mpr c6
      subst c6
      have H1 : (some 0) = some r := by rw [if_neg (show ¬ (false = true) by decide)] at H; exact H
      clear H
      have H := H1
      clear H1
      obtain rfl := Option.some.inj H
      go_enter Try.func35, Try.ntmps35
      go_wp2_with (first | ((with_reducible refine gate_dst (N := 2) rfl ?_); refine box_event ?hg (N := 2) ?hd (cs := #[.slice A0 l0.length c0]) (t := 26) ?hr ?_; (case hd => rfl); (case hg => rfl); (case hr => first | (go_simp; done) | (go_simp; rfl)); intro gb195 hg w11 hbox hb; have n0_ := Aside0.mk (below_step (by repeat (first | (with_reducible first | exact HB.out | apply below_alloc | apply pw_below_drewN | apply below_drew1) | exact HB.out)) hb); have n1_ := Aside0.mk (hbox); have n2_ := Aside0.mk ((by rw [hg]; exact (below_size (by repeat (first | (with_reducible first | exact HB.out | apply below_alloc | apply pw_below_drewN | apply below_drew1) | exact HB.out))) : w.heap.size ≤ gb195)); have n3_ := Aside0.mk ((by rw [hg]; exact (below_size (by repeat (first | (with_reducible first | exact HB.out | apply below_alloc | apply pw_below_drewN | apply below_drew1) | exact HB.out))) : w.heap.size ≤ gb195)); clear HB; have HB := n0_; have BK195 := n1_; have GW195 := n2_; have GE195 := n3_; clear n0_ n1_ n2_ n3_; clear hb hbox hg; have hcz12_0 : w11.cell? ⟨gb195, 0, none⟩ = some (.slice A0 l0.length c0) := (blk_cell BK195.out 0).trans rfl; have hfz12_0 := blk_frozen BK195.out 0) | ((with_reducible refine gate_callee (f := 44) rfl ?_); refine goesL_ (some 7) rfl rfl Try.func44 (by kernel_rfl) rfl #[.slice A0 l0.length c0] rfl (by (try simp only [List.map_toArray, List.map_cons, List.map_nil]); first | done | rfl | (simp only [List.length_drop, List.length_take]; rfl)) ?_; (with_reducible refine (impl_ValidPersons.calls k _ _ l0 true _ ?side1 ?side2 A3.out).mono ?_); (case side1 => repeat (first | exact (Kd.C_below HR0.out HB.out) | (with_reducible refine Kd.C_alloc ?_ _) | (with_reducible refine Kd.C_drewN ?_ _) | (with_reducible refine Kd.C_drew ?_))); (case side2 => exact HC0.out); rintro e w13 ⟨rfl, hb⟩; refine ⟨_, rfl, ?_⟩; have n0_ := Aside0.mk (blk_below (g := gb195) (o := .cells #[.slice A0 l0.length c0] 26 (0, 0)) (by (with_reducible repeat (first | refine blk_drewN ?_ _ | refine blk_drew ?_ | refine blk_alloc ?_ _)); exact BK195.out) hb); have n1_ := Aside0.mk (below_step (by repeat (first | (with_reducible first | exact HB.out | apply below_alloc | apply pw_below_drewN | apply below_drew1 | refine below_set ?_ GE195.out) | exact HB.out)) hb); clear BK195; clear HB; have BK195 := n0_; have HB := n1_; clear n0_ n1_; (try clear hb); (try clear hb2); (try clear hk); (try clear hi)) | (go_at_call 63; (with_reducible refine (slices_ContainsFunc_string_string_at_impl_personsCode_1.calls k _ _ l1 _ l0 false _ ?side1 ?side2 ?side3 A5.out).mono ?_); (case side1 => repeat (first | exact (Kd.C_below HR1.out HB.out) | (with_reducible refine Kd.C_alloc ?_ _) | (with_reducible refine Kd.C_drewN ?_ _) | (with_reducible refine Kd.C_drew ?_))); (case side2 => exact HC1.out); (case side3 => refine Kd.C_of_block (cs := #[.slice A0 l0.length c0]) (t := 26) (by (with_reducible repeat (first | refine blk_drewN ?_ _ | refine blk_drew ?_ | refine blk_alloc ?_ _)); exact BK195.out) ?_ rfl; exact ⟨_, _, rfl, (by exact HC0.out), (by repeat (first | exact (Kd.C_below HR0.out HB.out) | (with_reducible refine Kd.C_alloc ?_ _) | (with_reducible refine Kd.C_drewN ?_ _) | (with_reducible refine Kd.C_drew ?_)))⟩); rintro e w14 ⟨rfl, hb⟩; have n0_ := Aside0.mk (blk_below (g := gb195) (o := .cells #[.slice A0 l0.length c0] 26 (0, 0)) (by (with_reducible repeat (first | refine blk_drewN ?_ _ | refine blk_drew ?_ | refine blk_alloc ?_ _)); exact BK195.out) hb); have n1_ := Aside0.mk (below_step (by repeat (first | (with_reducible first | exact HB.out | apply below_alloc | apply pw_below_drewN | apply below_drew1 | refine below_set ?_ GE195.out) | exact HB.out)) hb); clear BK195; clear HB; have BK195 := n0_; have HB := n1_; clear n0_ n1_; (try clear hb); (try clear hb2); (try clear hk); (try clear hi)))
      go_ret
      exact ⟨by first | rfl | (simp [errW_none, errW_some] <;> rfl) | (simp [*, errW_none, errW_some] <;> rfl), by repeat (first | (with_reducible first | exact HB.out | apply below_alloc | apply pw_below_drewN | apply below_drew1 | refine below_set ?_ GE195.out) | exact HB.out)⟩
  · replace c4 := Bool.eq_false_iff.mpr c4
    subst c4
    have H1 : (some 1) = some r := by rw [if_neg (show ¬ (false = true) by decide)] at H; exact H
    clear H
    have H := H1
    clear H1
    obtain rfl := Option.some.inj H
    go_enter Try.func35, Try.ntmps35
    go_wp2_with (first | ((with_reducible refine gate_dst (N := 2) rfl ?_); refine box_event ?hg (N := 2) ?hd (cs := #[.slice A0 l0.length c0]) (t := 26) ?hr ?_; (case hd => rfl); (case hg => rfl); (case hr => first | (go_simp; done) | (go_simp; rfl)); intro gb195 hg w15 hbox hb; have n0_ := Aside0.mk (below_step (by repeat (first | (with_reducible first | exact HB.out | apply below_alloc | apply pw_below_drewN | apply below_drew1) | exact HB.out)) hb); have n1_ := Aside0.mk (hbox); have n2_ := Aside0.mk ((by rw [hg]; exact (below_size (by repeat (first | (with_reducible first | exact HB.out | apply below_alloc | apply pw_below_drewN | apply below_drew1) | exact HB.out))) : w.heap.size ≤ gb195)); have n3_ := Aside0.mk ((by rw [hg]; exact (below_size (by repeat (first | (with_reducible first | exact HB.out | apply below_alloc | apply pw_below_drewN | apply below_drew1) | exact HB.out))) : w.heap.size ≤ gb195)); clear HB; have HB := n0_; have BK195 := n1_; have GW195 := n2_; have GE195 := n3_; clear n0_ n1_ n2_ n3_; clear hb hbox hg; have hcz16_0 : w15.cell? ⟨gb195, 0, none⟩ = some (.slice A0 l0.length c0) := (blk_cell BK195.out 0).trans rfl; have hfz16_0 := blk_frozen BK195.out 0) | ((with_reducible refine gate_callee (f := 44) rfl ?_); refine goesL_ (some 7) rfl rfl Try.func44 (by kernel_rfl) rfl #[.slice A0 l0.length c0] rfl (by (try simp only [List.map_toArray, List.map_cons, List.map_nil]); first | done | rfl | (simp only [List.length_drop, List.length_take]; rfl)) ?_; (with_reducible refine (impl_ValidPersons.calls k _ _ l0 false _ ?side1 ?side2 A3.out).mono ?_); (case side1 => repeat (first | exact (Kd.C_below HR0.out HB.out) | (with_reducible refine Kd.C_alloc ?_ _) | (with_reducible refine Kd.C_drewN ?_ _) | (with_reducible refine Kd.C_drew ?_))); (case side2 => exact HC0.out); rintro e w17 ⟨rfl, hb⟩; refine ⟨_, rfl, ?_⟩; have n0_ := Aside0.mk (blk_below (g := gb195) (o := .cells #[.slice A0 l0.length c0] 26 (0, 0)) (by (with_reducible repeat (first | refine blk_drewN ?_ _ | refine blk_drew ?_ | refine blk_alloc ?_ _)); exact BK195.out) hb); have n1_ := Aside0.mk (below_step (by repeat (first | (with_reducible first | exact HB.out | apply below_alloc | apply pw_below_drewN | apply below_drew1 | refine below_set ?_ GE195.out) | exact HB.out)) hb); clear BK195; clear HB; have BK195 := n0_; have HB := n1_; clear n0_ n1_; (try clear hb); (try clear hb2); (try clear hk); (try clear hi)))
    go_ret
    exact ⟨by first | rfl | (simp [errW_none, errW_some] <;> rfl) | (simp [*, errW_none, errW_some] <;> rfl), by repeat (first | (with_reducible first | exact HB.out | apply below_alloc | apply pw_below_drewN | apply below_drew1 | refine below_set ?_ GE195.out) | exact HB.out)⟩

end Go.Proofs.Ytfjnjcefcoboaaa.P

/- Words of this session's own: a map from strings to whole numbers that the call has made, as a list of pairs, the newest first. No condition. -/
namespace Go.Proofs.YtfjnjcefcoboaaaW.PrintWords
open Go.RowKit Go.Maps Go.WideElems Go.WideMaps
abbrev PMap := List (List UInt8 × Int)
def mget (m : PMap) (k : List UInt8) : Option Int := (m.find? (fun p => p.1 == k)).map (·.2)
def mdat : PMap → DataW Unit
  | [] => .map []
  | p :: m => (mdat m).put (.string p.1) (.lit (.int .i64 p.2))
theorem mdat_isMap : ∀ m : PMap, IsMap (mdat m)
  | [] => isMap_empty
  | _ :: m => (mdat_isMap m).put _ _
theorem mget_cons (p : List UInt8 × Int) (m : PMap) (k : List UInt8) : mget (p :: m) k = if p.1 = k then some p.2 else mget m k := by
  unfold mget
  by_cases h : p.1 = k
  · simp [h]
  · simp [h]
theorem mdat_at (m : PMap) (k : List UInt8) (z : DataW Unit) : (mdat m).atKey (.string k) z = match mget m k with | some v => .lit (.int .i64 v) | none => z := by
  induction m with
  | nil => rfl
  | cons p m ih =>
    rw [mget_cons]
    show ((mdat m).put _ _).atKey _ _ = _
    by_cases h : p.1 = k
    · rw [if_pos h, h, atKey_put_same (mdat_isMap m) (show WideAt.IsKeyLit (.string _) from trivial)]
    · rw [if_neg h, atKey_put_other (fun e => h (by injection e with e; exact e.symm)), ih]
theorem mdat_has (m : PMap) (k : List UInt8) : has (mdat m) (.string k) = (mget m k).isSome := by
  induction m with
  | nil => rfl
  | cons p m ih =>
    rw [mget_cons]
    show has ((mdat m).put _ _) _ = _
    by_cases h : p.1 = k
    · rw [if_pos h, h, has_put_same (mdat_isMap m) (show WideAt.IsKeyLit (.string _) from trivial)]; rfl
    · rw [if_neg h, has_put_other (fun e => h (by injection e with e; exact e.symm)), ih]
/-- Block b is a map from strings to whole numbers that holds m. -/
structure MapIs (P : Program) (K E : TypeId) (w : World) (b : Nat) (m : PMap) : Prop where mk :: (out : w.ownsMap P K (plainElem P E) b m.length (mdat m))
variable {P : Program} {K E : TypeId} {w : World} {b : Nat} {m : PMap}
theorem MapIs.made (P : Program) (K E : TypeId) (w : World) : MapIs P K E (w.alloc (.map #[] 0)) w.heap.size [] := ⟨World.ownsMap_made _ _ _ _⟩
theorem MapIs.lt (h : MapIs P K E w b m) : b < w.heap.size := h.out.lt
theorem MapIs.kept {w' : World} {row : Option Nat} (h : MapIs P K E w b m) (hg : w.grownBy w' row) (hne : some b ≠ row) : MapIs P K E w' b m := ⟨h.out.kept hg hne⟩
theorem MapIs.alloc (h : MapIs P K E w b m) (o : Obj) : MapIs P K E (w.alloc o) b m := ⟨h.out.alloc o⟩
theorem MapIs.below {w' : World} (h : MapIs P K E w b m) (hb : Below w.heap.size w w') : MapIs P K E w' b m := h.kept (grown_of_below hb none) (by simp)
theorem MapIs.drewN (h : MapIs P K E w b m) (n : Nat) : MapIs P K E (w.drewN n) b m := h.below (pw_below_drewN (Below.refl _ _) n)
section
variable {ops : Array Oper} {rest : List Oper} {o : Oper} {a : Act} {Q : Exit → Act → World → Prop}
theorem MapIs.look (h : MapIs P K E w b m) (hg : o.guard = none) (t : TypeId) (mo x : Operand) (hop : o.op = Op.lookup t mo x false) (hk : P.underlying K = some .string) (ht : P.underlying t = some (.map K E)) (he : P.underlying E = some (.int .i64))
    (hz : (zeroValue E).run P w = .ok (.int .i64 0) w) (hm : a.eval mo = .map (some b)) {s : ByteArray} (hs : s.size ≤ maxLen) (hx : a.eval x = .string s)
    (hK : wpList P ops Q rest (a.put o.dst (.int .i64 ((mget m s.data.toList).getD 0))) w) : wpList P ops Q (o :: rest) a w := by
  refine wpList_lookup_own_int w hg mo x t hop K E .i64 (string_keyed hk) ht he hz b _ _ hm h.out _ _ hx (keyOf_string_mk hk hs) ?_
  intro c hat _
  rw [mdat_at] at hat
  have hc : c = (mget m s.data.toList).getD 0 := by
    cases hq : mget m s.data.toList with
    | none => rw [hq] at hat; simpa using hat.symm
    | some v => rw [hq] at hat; simpa using hat.symm
  rw [hc]; exact hK
theorem MapIs.look_ok (h : MapIs P K E w b m) (hg : o.guard = none) (t : TypeId) (mo x : Operand) (hop : o.op = Op.lookup t mo x true) (hk : P.underlying K = some .string) (ht : P.underlying t = some (.map K E)) (he : P.underlying E = some (.int .i64))
    (hz : (zeroValue E).run P w = .ok (.int .i64 0) w) (hm : a.eval mo = .map (some b)) {s : ByteArray} (hs : s.size ≤ maxLen) (hx : a.eval x = .string s)
    (hK : wpList P ops Q rest (a.put o.dst (.tuple #[.int .i64 ((mget m s.data.toList).getD 0), .bool (mget m s.data.toList).isSome])) w) : wpList P ops Q (o :: rest) a w := by
  refine wpList_lookup_own_ok_int w hg mo x t hop K E .i64 (string_keyed hk) ht he hz b _ _ hm h.out _ _ hx (keyOf_string_mk hk hs) ?_
  intro c hat _
  rw [mdat_at] at hat
  have hc : c = (mget m s.data.toList).getD 0 := by
    cases hq : mget m s.data.toList with
    | none => rw [hq] at hat; simpa using hat.symm
    | some v => rw [hq] at hat; simpa using hat.symm
  rw [hc, mdat_has]; exact hK
theorem MapIs.store (h : MapIs P K E w b m) (hg : o.guard = none) (t : TypeId) (mo x v : Operand) (hop : o.op = Op.mapUpdate t mo x v) (hk : P.underlying K = some .string) (ht : P.underlying t = some (.map K E)) (he : P.underlying E = some (.int .i64))
    (hn : m.length < maxLen) (hm : a.eval mo = .map (some b)) {s : ByteArray} (hs : s.size ≤ maxLen) (hx : a.eval x = .string s) {n : Int} (hv : a.eval v = .int .i64 n) (hw : (Lit.int .i64 n).wf = true)
    (hK : ∀ w', MapIs P K E w' b ((s.data.toList, n) :: m) → w.grownBy w' (some b) → wpList P ops Q rest (a.put o.dst undef) w') : wpList P ops Q (o :: rest) a w := by
  refine wpList_mapUpdate_own w hg mo x v t hop K E (string_keyed hk) ht _ b _ _ hm h.out hn _ _ _ hx hv (keyOf_string_mk hk hs) _ [] (plainElem_int he hw) ?_
  intro w' h1 h2
  exact hK w' ⟨h1⟩ h2
end
end Go.Proofs.YtfjnjcefcoboaaaW.PrintWords

/- impl.CountLines and impl.countLines, by hand: what the machine's call comes to is what the plain functions below say, for whatever list, name and map. No condition beyond the readings. -/
namespace Go.Proofs.Ytfjnjcefcoboaaa.P
open Go.RowKit Go.Proofs.YtfjnjcefcoboaaaW.PrintWords Go.Proofs.YtfjnjcefcoboaaaW.PrintLast Go.Proofs.YtfjnjcefcoboaaaW.PrintMore
set_option linter.unusedVariables false
set_option linter.unusedSimpArgs false
mutual
def impl_countLines.f : Nat → List S38 → ByteArray → PMap → Option (Int × PMap)
  | 0, _, _, _ => none
  | k + 1, l, nm, m => if nm.size ≤ maxLen then (match mget m nm.data.toList with
      | some v => some (v, m)
      | none => (impl_personAt.f k l nm).bind fun t => if 0 ≤ t then if t < (l.length : Int) then if ((rd_T38 l t).f2).length = 0 then some (1, m) else impl_countLines.l k l nm (rd_T38 l t).f2 0 0 m else none else none) else none
def impl_countLines.l : Nat → List S38 → ByteArray → List ByteArray → Int → Int → PMap → Option (Int × PMap)
  | 0, _, _, _, _, _, _ => none
  | k + 1, l, nm, ts, i, n, m => if i < (ts.length : Int) then if 0 ≤ i then (impl_countLines.f k l (rdOf ByteArray.empty ts i) m).bind fun r => impl_countLines.l k l nm ts (wrap64 (i + 1)) (wrap64 (n + r.1)) r.2 else none
      else if m.length < 1000000 then some (n, (nm.data.toList, n) :: m) else none
end
def impl_CountLines.f (k : Nat) (l0 : List S38) (a1 : ByteArray) : Option (Int × Int) :=
  (impl_personsCode.f k l0 [a1]).bind fun t => if t = 0 then (impl_countLines.f k l0 a1 []).bind fun r => some (r.1, 0) else some (0, t)
theorem impl_countLines.mono_l : ∀ k, (∀ a b c, LeO (impl_countLines.f k a b c) (impl_countLines.f (k + 1) a b c)) ∧ (∀ a b c d e g, LeO (impl_countLines.l k a b c d e g) (impl_countLines.l (k + 1) a b c d e g))
  | 0 => ⟨fun _ _ _ r h => by simp [impl_countLines.f] at h, fun _ _ _ _ _ _ r h => by simp [impl_countLines.l] at h⟩
  | k + 1 => by
    obtain ⟨ih0, ih1⟩ := impl_countLines.mono_l k
    refine ⟨fun a b c => ?_, fun a b c d e g => ?_⟩
    · unfold impl_countLines.f
      refine LeO.ite ?_ (LeO.refl _)
      cases mget c b.data.toList with
      | some v => exact LeO.refl _
      | none =>
        refine LeO.bind (impl_personAt.mono _ _ _) fun t => ?_
        exact LeO.ite (LeO.ite (LeO.ite (LeO.refl _) (ih1 _ _ _ _ _ _)) (LeO.refl _)) (LeO.refl _)
    · unfold impl_countLines.l
      exact LeO.ite (LeO.ite (LeO.bind (ih0 _ _ _) fun r => ih1 _ _ _ _ _ _) (LeO.refl _)) (LeO.refl _)
theorem impl_CountLines.mono : ∀ a0 a1 k, LeO (impl_CountLines.f k a0 a1) (impl_CountLines.f (k + 1) a0 a1) := by
  intro a0 a1 k
  unfold impl_CountLines.f
  exact LeO.bind (impl_personsCode.mono _ _ _) fun t => LeO.ite (LeO.bind ((impl_countLines.mono_l k).1 _ _ _) fun r => LeO.refl _) (LeO.refl _)
theorem zero2 (w : World) : (zeroValue 2).run Try.prog w = .ok (.int .i64 0) w := by kernel_rfl
set_option maxHeartbeats 4000000 in
set_option maxRecDepth 100000 in
theorem impl_countLines.calls (k : Nat) : ∀ (A0 : Option Addr) (c0 : Nat) (l0 : List S38) (a1 : ByteArray) (m : PMap) (b : Nat) (r1 : Int) (r2 : PMap) (w0 w : World) (hr0 : Kd.C k38 w0 A0 l0.length l0) (hc0 : l0.length ≤ c0) (hB : Below w0.heap.size w0 w) (hb : w0.heap.size ≤ b) (hm : MapIs Try.prog 9 2 w b m) (h : impl_countLines.f k l0 a1 m = some (r1, r2)),
    Calls Try.prog 36 #[.slice A0 l0.length c0, .string a1, .map (some b)] w fun e w' => e = .returned (.int .i64 r1) ∧ MapIs Try.prog 9 2 w' b r2 ∧ Below w0.heap.size w0 w' := by
  induction k using Nat.strongRecOn with
  | _ k ih =>
  intro A0 c0 l0 a1 m b r1 r2 w0 w hr0 hc0 hB hb hm h
  cases k with
  | zero => exact absurd h (by simp [impl_countLines.f])
  | succ k =>
  simp only [impl_countLines.f] at h
  have z2 := zero2
  by_cases hs : a1.size ≤ maxLen
  rotate_left
  · rw [if_neg hs] at h; cases h
  rw [if_pos hs] at h
  have Hs := Lib.hid hs
  clear hs
  cases hg : mget m a1.data.toList with
  | some v =>
    rw [hg] at h
    simp only [Option.some.injEq, Prod.mk.injEq] at h
    obtain ⟨rfl, rfl⟩ := h
    have HG := Lib.hid hg
    clear hg
    go_enter Try.func36, Try.ntmps36
    go_wp2_with (at_lookup; refine hm.look_ok rfl 60 _ _ rfl Try.underlying9 Try.underlying60 Try.underlying2 (z2 _) rfl Hs.out rfl ?_; rw [HG.out]; simp only [Option.getD_some, Option.isSome_some])
    go_ret
    exact ⟨rfl, hm, hB⟩
  | none =>
    rw [hg] at h
    have HG := Lib.hid hg
    clear hg
    obtain ⟨t, ht, h⟩ := Option.bind_eq_some_iff.mp h
    by_cases p1 : 0 ≤ t
    rotate_left
    · rw [if_neg p1] at h; cases h
    rw [if_pos p1] at h
    by_cases q1 : t < (l0.length : Int)
    rotate_left
    · rw [if_neg q1] at h; cases h
    rw [if_pos q1] at h
    have hr1 := Kd.C_below hr0 hB
    have HT := Aside0.mk ht
    clear ht
    obtain ⟨ad, A2, c2, eA, hx0, hx1, hx2, hl2, hi2⟩ := at_T38 hr0 t p1 q1
    cases eA
    have HX := fun (w1 : World) (hb1 : Below w0.heap.size w0 w1) => (hb1.cell (World.block_lt_of_cell? w0 _ hx2)).trans hx2
    clear hx0 hx1 hx2
    have HX := Aside0.mk HX
    have HI2 := Aside0.mk hi2
    have HL2 := Aside0.mk hl2
    clear hi2 hl2
    generalize hts : (rd_T38 l0 t).f2 = ts at *
    have P1 := Aside0.mk p1
    have Q1 := Aside0.mk q1
    by_cases e0 : ts.length = 0
    · rw [if_pos e0] at h
      simp only [Option.some.injEq, Prod.mk.injEq] at h
      obtain ⟨rfl, rfl⟩ := h
      have E0 : (((ts.length : Nat) : Int) == 0) = true := by rw [e0]; rfl
      have E1 := Aside0.mk e0
      clear e0
      go_enter Try.func36, Try.ntmps36
      go_wp2_with (first | (at_lookup; refine hm.look_ok rfl 60 _ _ rfl Try.underlying9 Try.underlying60 Try.underlying2 (z2 _) rfl Hs.out rfl ?_; rw [HG.out]; simp only [Option.getD_none, Option.isSome_none]) | (go_at_call 38; (with_reducible refine (impl_personAt.calls k _ _ l0 a1 t _ ?s1 ?s2 HT.out).mono ?_); (case s1 => exact hr1); (case s2 => exact hc0); rintro e w1 ⟨rfl, hb1⟩; have hB1 := below_step hB hb1; have hx := HX.out w1 hB1; have hm1 := hm.below hb1))
      go_ret
      exact ⟨rfl, hm1, hB1⟩
    · rw [if_neg e0] at h
      have E0 : (((ts.length : Nat) : Int) == 0) = false := by simpa using e0
      have E1 := Aside0.mk e0
      clear e0
      have H' := Aside0.mk h
      clear h
      go_enter Try.func36, Try.ntmps36
      go_wp2_with (first | (at_lookup; refine hm.look_ok rfl 60 _ _ rfl Try.underlying9 Try.underlying60 Try.underlying2 (z2 _) rfl Hs.out rfl ?_; rw [HG.out]; simp only [Option.getD_none, Option.isSome_none]) | (go_at_call 38; (with_reducible refine (impl_personAt.calls k _ _ l0 a1 t _ ?s1 ?s2 HT.out).mono ?_); (case s1 => exact hr1); (case s2 => exact hc0); rintro e w1 ⟨rfl, hb1⟩; have hB1 := below_step hB hb1; have hx := HX.out w1 hB1; have hm1 := hm.below hb1))
      go_loopg [10, 33] k (fun kq v10 v33 w' => ∃ (x10 : Int) (x33 : Int) (m' : PMap), v10 = .int .i64 x10 ∧ v33 = .int .i64 x33 ∧ Aside0 (impl_countLines.l kq l0 a1 ts x33 x10 m' = some (r1, r2)) ∧ Aside0 (kq ≤ k) ∧ Aside0 (MapIs Try.prog 9 2 w' b m') ∧ Aside0 (Below w0.heap.size w0 w') ∧ Aside0 ((Lit.int .i64 x10).wf = true))
      case atStart => exact ⟨0, 0, m, rfl, rfl, H', ⟨Nat.le_refl _⟩, ⟨hm1⟩, ⟨hB1⟩, ⟨by decide⟩⟩
      case round =>
        clear H' hm1 hB1 hx
        obtain ⟨x10, x33, m', rfl, rfl, HA, HK1, HM, HB1, HW⟩ := hrel
        cases gk with
        | zero => exact absurd HA.out (by simp [impl_countLines.l])
        | succ k1 =>
          have H := HA.out
          clear HA
          simp only [impl_countLines.l] at H
          by_cases c4 : x33 < (ts.length : Int)
          · rw [if_pos c4] at H
            have c4b : decide (x33 < (ts.length : Int)) = true := decide_eq_true c4
            by_cases c5 : 0 ≤ x33
            rotate_left
            · rw [if_neg c5] at H; cases H
            rw [if_pos c5] at H
            obtain ⟨⟨v1, m1⟩, HF, H⟩ := Option.bind_eq_some_iff.mp H
            have HF := Aside0.mk HF
            have H' := Aside0.mk H
            clear H
            obtain ⟨ads, eA, hs0⟩ := Kd.at_string HI2.out x33 c5 c4
            cases eA
            have hs1 := (HB1.out.cell (World.block_lt_of_cell? w0 _ hs0)).trans hs0
            clear hs0
            replace c5 := eq_true c5
            replace c4 := eq_true c4
            go_wp2_with (go_at_call 36; (with_reducible refine (ih k1 (by have := HK1.out; omega) _ _ l0 _ m' b v1 m1 w0 _ ?s1 ?s2 ?s3 ?s4 ?s5 HF.out).mono ?_); (case s1 => exact hr0); (case s2 => exact hc0); (case s3 => exact HB1.out); (case s4 => exact hb); (case s5 => exact HM.out); rintro e w2 ⟨rfl, hm2, hB2⟩)
            go_roundg k1
            case measure => have := HK1.out; omega
            case rel => exact ⟨_, _, m1, rfl, rfl, H', ⟨by have := HK1.out; omega⟩, ⟨hm2⟩, ⟨hB2⟩, ⟨wrap64_wf _⟩⟩
          · rw [if_neg c4] at H
            have c4b : decide (x33 < (ts.length : Int)) = false := decide_eq_false c4
            clear c4
            by_cases c6 : m'.length < 1000000
            rotate_left
            · rw [if_neg c6] at H; cases H
            rw [if_pos c6] at H
            simp only [Option.some.injEq, Prod.mk.injEq] at H
            obtain ⟨rfl, rfl⟩ := H
            have C6 := Aside0.mk c6
            clear c6
            go_wp2_with (at_mapUpdate; refine HM.out.store rfl 60 _ _ _ rfl Try.underlying9 Try.underlying60 Try.underlying2 (by have := C6.out; unfold maxLen; omega) rfl Hs.out rfl rfl HW.out ?_; intro w2 hm2 hg2; have hB2 := HB1.out.grown hg2 HB1.out.size (fun j hj => by injection hj with hj; subst hj; exact hb))
            go_ret
            exact ⟨rfl, hm2, hB2⟩
set_option maxHeartbeats 4000000 in
set_option maxRecDepth 100000 in
theorem impl_CountLines.calls (k : Nat) (A0 : Option Addr) (c0 : Nat) (l0 : List S38) (a1 : ByteArray) (r1 r2 : Int) (w : World) (hr0 : Kd.C k38 w A0 l0.length l0) (hc0 : l0.length ≤ c0) (h : impl_CountLines.f k l0 a1 = some (r1, r2)) :
    Calls Try.prog 11 #[.slice A0 l0.length c0, .string a1] w fun e w' => e = .returned (.tuple #[.int .i64 r1, .int .i64 r2]) ∧ Below w.heap.size w w' := by
  unfold impl_CountLines.f at h
  obtain ⟨t, ht, h⟩ := Option.bind_eq_some_iff.mp h
  have HT := Aside0.mk ht
  clear ht
  have hmm := @run_makeMap Try.prog
  have hC1 : ∀ W : World, Kd.C Kd.string (W.alloc (.cells #[.string a1] 9)) (some ⟨W.heap.size, 0, none⟩) 1 [a1] := fun W => Kd.C_of_block (cs := #[.string a1]) (t := 9) (heap_alloc_new W _) rfl rfl
  by_cases e0 : t = 0
  · rw [if_pos e0] at h
    obtain ⟨⟨n, m1⟩, HF, h⟩ := Option.bind_eq_some_iff.mp h
    simp only [Option.some.injEq, Prod.mk.injEq] at h
    obtain ⟨rfl, rfl⟩ := h
    have HF := Aside0.mk HF
    subst e0
    go_enter Try.func11, Try.ntmps11
    go_wp2_with (first
      | (go_at_call 35; (refine (impl_personsCode.calls k _ _ l0 _ _ [a1] 0 _ ?s1 ?s2 ?s3 ?s4 HT.out).mono ?_); (case s1 => exact Kd.C_alloc hr0 _); (case s2 => exact hc0); (case s3 => exact hC1 _); (case s4 => exact Nat.le_refl _); rintro e w1 ⟨rfl, hb1⟩; have hB1 := below_step (below_alloc (Below.refl w.heap.size w) _) hb1)
      | (go_at_call 36; (with_reducible refine (impl_countLines.calls k _ _ l0 a1 [] _ n m1 w _ ?s1 ?s2 ?s3 ?s4 ?s5 HF.out).mono ?_); (case s1 => exact hr0); (case s2 => exact hc0); (case s3 => exact below_alloc hB1 _); (case s4 => exact hB1.size); (case s5 => exact MapIs.made _ _ _ _); rintro e w2 ⟨rfl, _, hB2⟩))
    go_ret2
    exact ⟨rfl, hB2⟩
  · rw [if_neg e0] at h
    simp only [Option.some.injEq, Prod.mk.injEq] at h
    obtain ⟨rfl, rfl⟩ := h
    have E0 : (t != 0) = true := bne_iff_ne.mpr e0
    have E1 : (t == 0) = false := beq_eq_false_iff_ne.mpr e0
    clear e0
    go_enter Try.func11, Try.ntmps11
    go_wp2_with (go_at_call 35; (refine (impl_personsCode.calls k _ _ l0 _ _ [a1] t _ ?s1 ?s2 ?s3 ?s4 HT.out).mono ?_); (case s1 => exact Kd.C_alloc hr0 _); (case s2 => exact hc0); (case s3 => exact hC1 _); (case s4 => exact Nat.le_refl _); rintro e w1 ⟨rfl, hb1⟩; have hB1 := below_step (below_alloc (Below.refl w.heap.size w) _) hb1)
    go_ret2
    exact ⟨rfl, hB1⟩
end Go.Proofs.Ytfjnjcefcoboaaa.P

-- printed by a program of this session out of the translation
namespace Go.Proofs.Ytfjnjcefcoboaaa.P
open Go.RowKit Go.Proofs.YtfjnjcefcoboaaaW.PrintWords Go.Proofs.YtfjnjcefcoboaaaW.PrintLast Go.Proofs.YtfjnjcefcoboaaaW.PrintMore
attribute [local go_sem] max2_int min2_int max_two min_two max_three min_three max_four min_four   -- for this text's walks alone
set_option linter.unusedVariables false
set_option linter.unusedSimpArgs false

/-! ### laws_FnExactCountLines: function 3 -/
def laws_FnExactCountLines.j0 : Nat → List (S34) → List (S38) → Bool → Option (Bool)
  | 0, _, _, _ => none
  | k + 1, x0, x8, x41 => if x41 = true then (some false) else ((laws_toPersonS.f k x0).bind fun t217 => ((laws_eqPersonS.f k x8 t217).bind fun t220 => (if t220 = true then (some true) else (some false))))
def laws_FnExactCountLines.f (k : Nat) (l0 : List (S34)) (a1 : ByteArray) : Option (Bool) := if (a1.size : Int) > 1048576 then (some true) else ((laws_szPersonS.f k l0 1048576).bind fun t206 => (if t206 < 0 then (some true) else ((laws_toPersonS.f k l0).bind fun t207 => ((spec_CountLines.f k t207 a1).bind fun bt210 => ((laws_toPersonS.f k l0).bind fun t212 => ((impl_CountLines.f k t212 a1).bind fun bt215 => (if bt215.1 = bt210.1 then (laws_FnExactCountLines.j0 k l0 t212 (bt215.2 != bt210.2)) else (laws_FnExactCountLines.j0 k l0 t212 true))))))))
theorem laws_FnExactCountLines.mono_l : ∀ k, (∀ y0 y1 y2, LeO (laws_FnExactCountLines.j0 k y0 y1 y2) (laws_FnExactCountLines.j0 (k + 1) y0 y1 y2))
  | 0 => fun _ _ _ r h => by simp [laws_FnExactCountLines.j0] at h
  | k + 1 => by
    have ih0 := laws_FnExactCountLines.mono_l k
    · intro y0 y1 y2
      unfold laws_FnExactCountLines.j0
      repeat' first
      | (with_reducible exact ih0 _ _ _)
      | (with_reducible exact impl_CountLines.mono _ _ _)
      | (with_reducible exact laws_eqPersonS.mono _ _ _)
      | (with_reducible exact laws_szPersonS.mono _ _ _)
      | (with_reducible exact laws_toPersonS.mono _ _)
      | (with_reducible exact spec_CountLines.mono _ _ _)
      | (with_reducible exact LeO.refl _)
      | (with_reducible exact LeO.none _)
      | (with_reducible refine LeO.ite ?_ ?_)
      | (with_reducible refine LeO.bind ?_ (fun _ => ?_))
      | exact ih0 _ _ _
      | exact impl_CountLines.mono _ _ _
      | exact laws_eqPersonS.mono _ _ _
      | exact laws_szPersonS.mono _ _ _
      | exact laws_toPersonS.mono _ _
      | exact spec_CountLines.mono _ _ _
      | exact LeO.none _
      | refine LeO.ite ?_ ?_
      | refine LeO.bind ?_ (fun _ => ?_)
theorem laws_FnExactCountLines.mono : ∀ a0 a1 k, LeO (laws_FnExactCountLines.f k a0 a1) (laws_FnExactCountLines.f (k + 1) a0 a1) := by
  intro a0 a1 k
  have ih0 := laws_FnExactCountLines.mono_l k
  unfold laws_FnExactCountLines.f
  repeat' first
      | (with_reducible exact ih0 _ _ _)
      | (with_reducible exact impl_CountLines.mono _ _ _)
      | (with_reducible exact laws_eqPersonS.mono _ _ _)
      | (with_reducible exact laws_szPersonS.mono _ _ _)
      | (with_reducible exact laws_toPersonS.mono _ _)
      | (with_reducible exact spec_CountLines.mono _ _ _)
      | (with_reducible exact LeO.refl _)
      | (with_reducible exact LeO.none _)
      | (with_reducible refine LeO.ite ?_ ?_)
      | (with_reducible refine LeO.bind ?_ (fun _ => ?_))
      | exact ih0 _ _ _
      | exact impl_CountLines.mono _ _ _
      | exact laws_eqPersonS.mono _ _ _
      | exact laws_szPersonS.mono _ _ _
      | exact laws_toPersonS.mono _ _
      | exact spec_CountLines.mono _ _ _
      | exact LeO.none _
      | refine LeO.ite ?_ ?_
      | refine LeO.bind ?_ (fun _ => ?_)
set_option maxHeartbeats 8000000 in
set_option maxRecDepth 100000 in
theorem laws_FnExactCountLines.calls (k : Nat) (A0 : Option Addr) (c0 : Nat) (l0 : List (S34)) (a1 : ByteArray) (r : Bool) (w : World) (hr0 : Kd.C k34 w A0 l0.length l0) (hc0 : l0.length ≤ c0) (h : laws_FnExactCountLines.f k l0 a1 = some r) :
    Calls Try.prog 3 #[.slice A0 l0.length c0, .string a1] w fun e w' => e = .returned (.bool r) ∧ Below w.heap.size w w' := by
  have HR0 := Aside0.mk hr0
  have HC0 := Aside0.mk hc0
  clear hr0 hc0
  have HB := Aside0.mk (Below.refl w.heap.size w)
  have H : (if (a1.size : Int) > 1048576 then (some true) else ((laws_szPersonS.f k l0 1048576).bind fun t206 => (if t206 < 0 then (some true) else ((laws_toPersonS.f k l0).bind fun t207 => ((spec_CountLines.f k t207 a1).bind fun bt210 => ((laws_toPersonS.f k l0).bind fun t212 => ((impl_CountLines.f k t212 a1).bind fun bt215 => (if bt215.1 = bt210.1 then (laws_FnExactCountLines.j0 k l0 t212 (bt215.2 != bt210.2)) else (laws_FnExactCountLines.j0 k l0 t212 true))))))))) = some r := h
  clear h
  by_cases c3 : (a1.size : Int) > 1048576
  · rw [if_pos c3] at H
    have c3b0 : decide (1048576 < (a1.size : Int)) = true := decide_eq_true c3
    have c3b1 : decide (1048576 < a1.size) = true := decide_eq_true (by omega)
    clear c3
    obtain rfl := Option.some.inj H
    go_enter Try.func3, Try.ntmps3
    go_wp2
    go_ret
    exact ⟨by first | rfl | (simp [errW_none, errW_some] <;> rfl) | (simp [*, errW_none, errW_some] <;> rfl), by repeat (first | (with_reducible first | exact HB.out | apply below_alloc | apply pw_below_drewN | apply below_drew1) | exact HB.out)⟩
  · rw [if_neg c3] at H
    have c3b0 : decide (1048576 < (a1.size : Int)) = false := decide_eq_false c3
    have c3b1 : decide (1048576 < a1.size) = false := decide_eq_false (by omega)
    clear c3
    replace H := Option.bind_eq_some_iff.mp H
    obtain ⟨t206, A40, H⟩ := H
    replace H : (if t206 < 0 then (some true) else ((laws_toPersonS.f k l0).bind fun t207 => ((spec_CountLines.f k t207 a1).bind fun bt210 => ((laws_toPersonS.f k l0).bind fun t212 => ((impl_CountLines.f k t212 a1).bind fun bt215 => (if bt215.1 = bt210.1 then (laws_FnExactCountLines.j0 k l0 t212 (bt215.2 != bt210.2)) else (laws_FnExactCountLines.j0 k l0 t212 true))))))) = some r := H
    have A4 := Aside0.mk A40
    clear A40
    by_cases c5 : t206 < 0
    · rw [if_pos c5] at H
      have c5b0 : decide (t206 < 0) = true := decide_eq_true c5
      clear c5
      obtain rfl := Option.some.inj H
      go_enter Try.func3, Try.ntmps3
      go_wp2_with (first | ((with_reducible refine gate_callee (f := 8) rfl ?_); refine goesL_ (some 16) rfl rfl Try.func8 (by kernel_rfl) rfl #[.slice A0 l0.length c0, .int .i64 1048576] rfl (by (try simp only [List.map_toArray, List.map_cons, List.map_nil]); first | done | rfl | (simp only [List.length_drop, List.length_take]; rfl)) ?_; (with_reducible refine (laws_szPersonS.calls k _ _ l0 1048576 t206 _ ?side1 ?side2 A4.out).mono ?_); (case side1 => repeat (first | exact HR0.out | (with_reducible refine Kd.C_alloc ?_ _) | (with_reducible refine Kd.C_drewN ?_ _) | (with_reducible refine Kd.C_drew ?_))); (case side2 => exact HC0.out); rintro e w6 ⟨rfl, hb⟩; refine ⟨_, rfl, ?_⟩; have n0_ := Aside0.mk (below_step (by repeat (first | (with_reducible first | exact HB.out | apply below_alloc | apply pw_below_drewN | apply below_drew1) | exact HB.out)) hb); clear HB; have HB := n0_; clear n0_; (try clear hb); (try clear hb2); (try clear hk); (try clear hi)))
      go_ret
      exact ⟨by first | rfl | (simp [errW_none, errW_some] <;> rfl) | (simp [*, errW_none, errW_some] <;> rfl), by repeat (first | (with_reducible first | exact HB.out | apply below_alloc | apply pw_below_drewN | apply below_drew1) | exact HB.out)⟩
    · rw [if_neg c5] at H
      have c5b0 : decide (t206 < 0) = false := decide_eq_false c5
      clear c5
      replace H := Option.bind_eq_some_iff.mp H
      obtain ⟨t207, A70, H⟩ := H
      replace H : ((spec_CountLines.f k t207 a1).bind fun bt210 => ((laws_toPersonS.f k l0).bind fun t212 => ((impl_CountLines.f k t212 a1).bind fun bt215 => (if bt215.1 = bt210.1 then (laws_FnExactCountLines.j0 k l0 t212 (bt215.2 != bt210.2)) else (laws_FnExactCountLines.j0 k l0 t212 true))))) = some r := H
      have A7 := Aside0.mk A70
      clear A70
      replace H := Option.bind_eq_some_iff.mp H
      obtain ⟨⟨t210, t211⟩, A80, H⟩ := H
      replace H : ((laws_toPersonS.f k l0).bind fun t212 => ((impl_CountLines.f k t212 a1).bind fun bt215 => (if bt215.1 = t210 then (laws_FnExactCountLines.j0 k l0 t212 (bt215.2 != t211)) else (laws_FnExactCountLines.j0 k l0 t212 true)))) = some r := H
      have A8 := Aside0.mk A80
      clear A80
      replace H := Option.bind_eq_some_iff.mp H
      obtain ⟨t212, A90, H⟩ := H
      replace H : ((impl_CountLines.f k t212 a1).bind fun bt215 => (if bt215.1 = t210 then (laws_FnExactCountLines.j0 k l0 t212 (bt215.2 != t211)) else (laws_FnExactCountLines.j0 k l0 t212 true))) = some r := H
      have A9 := Aside0.mk A90
      clear A90
      replace H := Option.bind_eq_some_iff.mp H
      obtain ⟨⟨t215, t216⟩, A100, H⟩ := H
      replace H : (if t215 = t210 then (laws_FnExactCountLines.j0 k l0 t212 (t216 != t211)) else (laws_FnExactCountLines.j0 k l0 t212 true)) = some r := H
      have A10 := Aside0.mk A100
      clear A100
      have HC11 := Aside0.mk H
      clear H
      go_enter Try.func3, Try.ntmps3
      go_upto_region 10 with (first | ((with_reducible refine gate_callee (f := 8) rfl ?_); refine goesL_ (some 16) rfl rfl Try.func8 (by kernel_rfl) rfl #[.slice A0 l0.length c0, .int .i64 1048576] rfl (by (try simp only [List.map_toArray, List.map_cons, List.map_nil]); first | done | rfl | (simp only [List.length_drop, List.length_take]; rfl)) ?_; (with_reducible refine (laws_szPersonS.calls k _ _ l0 1048576 t206 _ ?side1 ?side2 A4.out).mono ?_); (case side1 => repeat (first | exact HR0.out | (with_reducible refine Kd.C_alloc ?_ _) | (with_reducible refine Kd.C_drewN ?_ _) | (with_reducible refine Kd.C_drew ?_))); (case side2 => exact HC0.out); rintro e w12 ⟨rfl, hb⟩; refine ⟨_, rfl, ?_⟩; have n0_ := Aside0.mk (below_step (by repeat (first | (with_reducible first | exact HB.out | apply below_alloc | apply pw_below_drewN | apply below_drew1) | exact HB.out)) hb); clear HB; have HB := n0_; clear n0_; (try clear hb); (try clear hb2); (try clear hk); (try clear hi)) | ((with_reducible refine gate_callee (f := 10) rfl ?_); refine goesL_ (some 21) rfl rfl Try.func10 (by kernel_rfl) rfl #[.slice A0 l0.length c0] rfl (by (try simp only [List.map_toArray, List.map_cons, List.map_nil]); first | done | rfl | (simp only [List.length_drop, List.length_take]; rfl)) ?_; (with_reducible refine (laws_toPersonS.calls k _ _ l0 t207 _ ?side1 ?side2 A7.out).mono ?_); (case side1 => repeat (first | exact (Kd.C_below HR0.out HB.out) | (with_reducible refine Kd.C_alloc ?_ _) | (with_reducible refine Kd.C_drewN ?_ _) | (with_reducible refine Kd.C_drew ?_))); (case side2 => exact HC0.out); rintro e w13 ⟨v208, rfl, ho0, hb⟩; refine ⟨_, rfl, ?_⟩; have n0_ := Aside0.mk (Kd.S_lower ho0 (below_size (by repeat (first | (with_reducible first | exact HB.out | apply below_alloc | apply pw_below_drewN | apply below_drew1) | exact HB.out)))); have n1_ := Aside0.mk (below_step (by repeat (first | (with_reducible first | exact HB.out | apply below_alloc | apply pw_below_drewN | apply below_drew1) | exact HB.out)) hb); clear HB; have HO209 := n0_; have HB := n1_; clear n0_ n1_; (try clear hb); (try clear hb2); (try clear hk); (try clear hi); (try clear ho0); obtain ⟨Ao14, co14, eo14⟩ := Kd.S_slice HO209.out; subst eo14) | ((with_reducible refine gate_callee (f := 9) rfl ?_); refine goesL_ (some 23) rfl rfl Try.func9 (by kernel_rfl) rfl #[.slice Ao14 t207.length co14, .string a1] rfl (by (try simp only [List.map_toArray, List.map_cons, List.map_nil]); first | done | rfl | (simp only [List.length_drop, List.length_take]; rfl)) ?_; (with_reducible refine (spec_CountLines.calls k _ _ t207 a1 t210 t211 _ ?side1 ?side2 A8.out).mono ?_); (case side1 => repeat (first | exact (Kd.S_reads' HO209.out).2.2 | (with_reducible refine Kd.C_alloc ?_ _) | (with_reducible refine Kd.C_drewN ?_ _) | (with_reducible refine Kd.C_drew ?_))); (case side2 => exact (Kd.S_reads' HO209.out).2.1); rintro e w15 ⟨rfl, hb⟩; refine ⟨_, rfl, ?_⟩; have n0_ := Aside0.mk (Kd.S_below (by (with_reducible repeat (first | apply Kd.S_alloc | apply Kd.S_drewN | apply Kd.S_drew)); exact HO209.out) hb); have n1_ := Aside0.mk (below_step (by repeat (first | (with_reducible first | exact HB.out | apply below_alloc | apply pw_below_drewN | apply below_drew1) | exact HB.out)) hb); clear HO209; clear HB; have HO209 := n0_; have HB := n1_; clear n0_ n1_; (try clear hb); (try clear hb2); (try clear hk); (try clear hi)) | ((with_reducible refine gate_callee (f := 10) rfl ?_); refine goesL_ (some 27) rfl rfl Try.func10 (by kernel_rfl) rfl #[.slice A0 l0.length c0] rfl (by (try simp only [List.map_toArray, List.map_cons, List.map_nil]); first | done | rfl | (simp only [List.length_drop, List.length_take]; rfl)) ?_; (with_reducible refine (laws_toPersonS.calls k _ _ l0 t212 _ ?side1 ?side2 A9.out).mono ?_); (case side1 => repeat (first | exact (Kd.C_below HR0.out HB.out) | (with_reducible refine Kd.C_alloc ?_ _) | (with_reducible refine Kd.C_drewN ?_ _) | (with_reducible refine Kd.C_drew ?_))); (case side2 => exact HC0.out); rintro e w16 ⟨v213, rfl, ho0, hb⟩; refine ⟨_, rfl, ?_⟩; have n0_ := Aside0.mk (Kd.S_elder' (by (with_reducible repeat (first | apply Kd.S_alloc | apply Kd.S_drewN | apply Kd.S_drew)); exact HO209.out) (Kd.S_base ho0) hb); have n1_ := Aside0.mk (Kd.S_lower (Kd.S_new' ho0 (Kd.S_lt (by (with_reducible repeat (first | apply Kd.S_alloc | apply Kd.S_drewN | apply Kd.S_drew)); exact HO209.out))) (below_size (by repeat (first | (with_reducible first | exact HB.out | apply below_alloc | apply pw_below_drewN | apply below_drew1) | exact HB.out)))); have n2_ := Aside0.mk (below_step (by repeat (first | (with_reducible first | exact HB.out | apply below_alloc | apply pw_below_drewN | apply below_drew1) | exact HB.out)) hb); clear HO209; clear HB; have HO209 := n0_; have HO214 := n1_; have HB := n2_; clear n0_ n1_ n2_; (try clear hb); (try clear hb2); (try clear hk); (try clear hi); (try clear ho0); obtain ⟨Ao17, co17, eo17⟩ := Kd.S_slice HO214.out; subst eo17) | ((with_reducible refine gate_callee (f := 11) rfl ?_); refine goesL_ (some 31) rfl rfl Try.func11 (by kernel_rfl) rfl #[.slice Ao17 t212.length co17, .string a1] rfl (by (try simp only [List.map_toArray, List.map_cons, List.map_nil]); first | done | rfl | (simp only [List.length_drop, List.length_take]; rfl)) ?_; (with_reducible refine (impl_CountLines.calls k _ _ t212 a1 t215 t216 _ ?side1 ?side2 A10.out).mono ?_); (case side1 => repeat (first | exact (Kd.S_reads' HO214.out).2.2 | (with_reducible refine Kd.C_alloc ?_ _) | (with_reducible refine Kd.C_drewN ?_ _) | (with_reducible refine Kd.C_drew ?_))); (case side2 => exact (Kd.S_reads' HO214.out).2.1); rintro e w18 ⟨rfl, hb⟩; refine ⟨_, rfl, ?_⟩; have n0_ := Aside0.mk (Kd.S_below (by (with_reducible repeat (first | apply Kd.S_alloc | apply Kd.S_drewN | apply Kd.S_drew)); exact HO209.out) hb); have n1_ := Aside0.mk (Kd.S_below (by (with_reducible repeat (first | apply Kd.S_alloc | apply Kd.S_drewN | apply Kd.S_drew)); exact HO214.out) hb); have n2_ := Aside0.mk (below_step (by repeat (first | (with_reducible first | exact HB.out | apply below_alloc | apply pw_below_drewN | apply below_drew1) | exact HB.out)) hb); clear HO209; clear HO214; clear HB; have HO209 := n0_; have HO214 := n1_; have HB := n2_; clear n0_ n1_ n2_; (try clear hb); (try clear hb2); (try clear hk); (try clear hi)))
      (try simp only [Act.put, List.setIfInBounds_toArray, List.set_cons_zero, List.set_cons_succ])
      go_cut [41] (fun v41 wc => ∃ (kq : Nat) (x41_10 : Bool), v41 = .bool x41_10 ∧ Aside0 (laws_FnExactCountLines.j0 kq l0 t212 x41_10 = some r) ∧ Aside0 (kq ≤ k) ∧ Aside0 (Kd.S k38 38 wc w.heap.size (fun _ => True) (.slice Ao17 t212.length co17) t212) ∧ Aside0 (Below w.heap.size w wc))
      case first =>
        have H := HC11.out
        clear HC11
        by_cases c19 : t215 = t210
        · rw [if_pos c19] at H
          have c19b0 : (t215 == t210) = true := beq_iff_eq.mpr c19
          have c19b1 : (t215 != t210) = false := bne_eq_false_iff_eq.mpr c19
          clear c19
          (first | rw [c19b0] | (simp only [i64_w, i32_w]; rw [c19b0]) | skip)
          have H' := Aside0.mk H
          clear H
          go_wp2
          go_meet
          case rel => exact ⟨_, ((t216 != t211)), (by first | rfl | (simp; done) | (simp [*]; done)), H', ⟨by first | omega | exact Nat.le_refl _⟩, ⟨by (with_reducible repeat (first | apply Kd.S_alloc | apply Kd.S_drewN | apply Kd.S_drew)); exact Kd.S_mono HO214.out (fun _ hk => trivial)⟩, ⟨by repeat (first | (with_reducible first | exact HB.out | apply below_alloc | apply pw_below_drewN | apply below_drew1) | exact HB.out)⟩⟩
        · rw [if_neg c19] at H
          have c19b0 : (t215 == t210) = false := beq_eq_false_iff_ne.mpr c19
          have c19b1 : (t215 != t210) = true := bne_iff_ne.mpr c19
          (first | rw [c19b0] | (simp only [i64_w, i32_w]; rw [c19b0]) | skip)
          have H' := Aside0.mk H
          clear H
          go_wp2
          go_meet
          case rel => exact ⟨_, (true), (by first | rfl | (simp; done) | (simp [*]; done)), H', ⟨by first | omega | exact Nat.le_refl _⟩, ⟨by (with_reducible repeat (first | apply Kd.S_alloc | apply Kd.S_drewN | apply Kd.S_drew)); exact Kd.S_mono HO214.out (fun _ hk => trivial)⟩, ⟨by repeat (first | (with_reducible first | exact HB.out | apply below_alloc | apply pw_below_drewN | apply below_drew1) | exact HB.out)⟩⟩
      case rest =>
        clear HC11
        try clear c1
        try clear p2
        try clear c3
        try clear c3b0
        try clear c3b1
        try clear c5
        try clear c5b0
        try clear c8
        try clear c9
        try clear c10
        try clear c11
        try clear c19
        try clear c19b0
        try clear c19b1
        obtain ⟨kq, x41_10, rfl, HA, HJ10, HO_8, HB⟩ := hcut
        cases kq with
        | zero => exact absurd HA.out (by simp [laws_FnExactCountLines.j0])
        | succ kj10 =>
          have H := HA.out
          clear HA
          simp only [laws_FnExactCountLines.j0] at H
          by_cases c20 : x41_10 = true
          · subst c20
            have H1 : (some false) = some r := by rw [if_pos rfl] at H; exact H
            clear H
            have H := H1
            clear H1
            obtain rfl := Option.some.inj H
            go_wp2
            go_ret
            exact ⟨by first | rfl | (simp [errW_none, errW_some] <;> rfl) | (simp [*, errW_none, errW_some] <;> rfl), by repeat (first | (with_reducible first | exact HB.out | apply below_alloc | apply pw_below_drewN | apply below_drew1) | exact HB.out)⟩
          · replace c20 := Bool.eq_false_iff.mpr c20
            subst c20
            have H1 : ((laws_toPersonS.f kj10 l0).bind fun t217 => ((laws_eqPersonS.f kj10 t212 t217).bind fun t220 => (if t220 = true then (some true) else (some false)))) = some r := by rw [if_neg (show ¬ (false = true) by decide)] at H; exact H
            clear H
            have H := H1
            clear H1
            replace H := Option.bind_eq_some_iff.mp H
            obtain ⟨t217, A210, H⟩ := H
            replace H : ((laws_eqPersonS.f kj10 t212 t217).bind fun t220 => (if t220 = true then (some true) else (some false))) = some r := H
            have A21 := Aside0.mk A210
            clear A210
            replace H := Option.bind_eq_some_iff.mp H
            obtain ⟨t220, A220, H⟩ := H
            replace H : (if t220 = true then (some true) else (some false)) = some r := H
            have A22 := Aside0.mk A220
            clear A220
            by_cases c23 : t220 = true
            · subst c23
              have H1 : (some true) = some r := by rw [if_pos rfl] at H; exact H
              clear H
              have H := H1
              clear H1
              obtain rfl := Option.some.inj H
              go_wp2_with (first | ((with_reducible refine gate_callee (f := 10) rfl ?_); refine goesL_ (some 44) rfl rfl Try.func10 (by kernel_rfl) rfl #[.slice A0 l0.length c0] rfl (by (try simp only [List.map_toArray, List.map_cons, List.map_nil]); first | done | rfl | (simp only [List.length_drop, List.length_take]; rfl)) ?_; (with_reducible refine (laws_toPersonS.calls kj10 _ _ l0 t217 _ ?side1 ?side2 A21.out).mono ?_); (case side1 => repeat (first | exact (Kd.C_below HR0.out HB.out) | (with_reducible refine Kd.C_alloc ?_ _) | (with_reducible refine Kd.C_drewN ?_ _) | (with_reducible refine Kd.C_drew ?_))); (case side2 => exact HC0.out); rintro e w24 ⟨v218, rfl, ho0, hb⟩; refine ⟨_, rfl, ?_⟩; have n0_ := Aside0.mk (Kd.S_elder' (by (with_reducible repeat (first | apply Kd.S_alloc | apply Kd.S_drewN | apply Kd.S_drew)); exact HO_8.out) (Kd.S_base ho0) hb); have n1_ := Aside0.mk (Kd.S_lower (Kd.S_new' ho0 (Kd.S_lt (by (with_reducible repeat (first | apply Kd.S_alloc | apply Kd.S_drewN | apply Kd.S_drew)); exact HO_8.out))) (below_size (by repeat (first | (with_reducible first | exact HB.out | apply below_alloc | apply pw_below_drewN | apply below_drew1) | exact HB.out)))); have n2_ := Aside0.mk (below_step (by repeat (first | (with_reducible first | exact HB.out | apply below_alloc | apply pw_below_drewN | apply below_drew1) | exact HB.out)) hb); clear HO_8; clear HB; have HO_8 := n0_; have HO219 := n1_; have HB := n2_; clear n0_ n1_ n2_; (try clear hb); (try clear hb2); (try clear hk); (try clear hi); (try clear ho0); obtain ⟨Ao25, co25, eo25⟩ := Kd.S_slice HO219.out; subst eo25) | ((with_reducible refine gate_callee (f := 12) rfl ?_); refine goesL_ (some 45) rfl rfl Try.func12 (by kernel_rfl) rfl #[.slice Ao17 t212.length co17, .slice Ao25 t217.length co25] rfl (by (try simp only [List.map_toArray, List.map_cons, List.map_nil]); first | done | rfl | (simp only [List.length_drop, List.length_take]; rfl)) ?_; (with_reducible refine (laws_eqPersonS.calls kj10 _ _ t212 _ _ t217 true _ ?side1 ?side2 ?side3 ?side4 A22.out).mono ?_); (case side1 => repeat (first | exact (Kd.S_reads' HO_8.out).2.2 | (with_reducible refine Kd.C_alloc ?_ _) | (with_reducible refine Kd.C_drewN ?_ _) | (with_reducible refine Kd.C_drew ?_))); (case side2 => exact (Kd.S_reads' HO_8.out).2.1); (case side3 => repeat (first | exact (Kd.S_reads' HO219.out).2.2 | (with_reducible refine Kd.C_alloc ?_ _) | (with_reducible refine Kd.C_drewN ?_ _) | (with_reducible refine Kd.C_drew ?_))); (case side4 => exact (Kd.S_reads' HO219.out).2.1); rintro e w26 ⟨rfl, hb⟩; refine ⟨_, rfl, ?_⟩; have n0_ := Aside0.mk (Kd.S_below (by (with_reducible repeat (first | apply Kd.S_alloc | apply Kd.S_drewN | apply Kd.S_drew)); exact HO_8.out) hb); have n1_ := Aside0.mk (Kd.S_below (by (with_reducible repeat (first | apply Kd.S_alloc | apply Kd.S_drewN | apply Kd.S_drew)); exact HO219.out) hb); have n2_ := Aside0.mk (below_step (by repeat (first | (with_reducible first | exact HB.out | apply below_alloc | apply pw_below_drewN | apply below_drew1) | exact HB.out)) hb); clear HO_8; clear HO219; clear HB; have HO_8 := n0_; have HO219 := n1_; have HB := n2_; clear n0_ n1_ n2_; (try clear hb); (try clear hb2); (try clear hk); (try clear hi)))
              go_ret
              exact ⟨by first | rfl | (simp [errW_none, errW_some] <;> rfl) | (simp [*, errW_none, errW_some] <;> rfl), by repeat (first | (with_reducible first | exact HB.out | apply below_alloc | apply pw_below_drewN | apply below_drew1) | exact HB.out)⟩
            · replace c23 := Bool.eq_false_iff.mpr c23
              subst c23
              have H1 : (some false) = some r := by rw [if_neg (show ¬ (false = true) by decide)] at H; exact H
              clear H
              have H := H1
              clear H1
              obtain rfl := Option.some.inj H
              go_wp2_with (first | ((with_reducible refine gate_callee (f := 10) rfl ?_); refine goesL_ (some 44) rfl rfl Try.func10 (by kernel_rfl) rfl #[.slice A0 l0.length c0] rfl (by (try simp only [List.map_toArray, List.map_cons, List.map_nil]); first | done | rfl | (simp only [List.length_drop, List.length_take]; rfl)) ?_; (with_reducible refine (laws_toPersonS.calls kj10 _ _ l0 t217 _ ?side1 ?side2 A21.out).mono ?_); (case side1 => repeat (first | exact (Kd.C_below HR0.out HB.out) | (with_reducible refine Kd.C_alloc ?_ _) | (with_reducible refine Kd.C_drewN ?_ _) | (with_reducible refine Kd.C_drew ?_))); (case side2 => exact HC0.out); rintro e w27 ⟨v218, rfl, ho0, hb⟩; refine ⟨_, rfl, ?_⟩; have n0_ := Aside0.mk (Kd.S_elder' (by (with_reducible repeat (first | apply Kd.S_alloc | apply Kd.S_drewN | apply Kd.S_drew)); exact HO_8.out) (Kd.S_base ho0) hb); have n1_ := Aside0.mk (Kd.S_lower (Kd.S_new' ho0 (Kd.S_lt (by (with_reducible repeat (first | apply Kd.S_alloc | apply Kd.S_drewN | apply Kd.S_drew)); exact HO_8.out))) (below_size (by repeat (first | (with_reducible first | exact HB.out | apply below_alloc | apply pw_below_drewN | apply below_drew1) | exact HB.out)))); have n2_ := Aside0.mk (below_step (by repeat (first | (with_reducible first | exact HB.out | apply below_alloc | apply pw_below_drewN | apply below_drew1) | exact HB.out)) hb); clear HO_8; clear HB; have HO_8 := n0_; have HO219 := n1_; have HB := n2_; clear n0_ n1_ n2_; (try clear hb); (try clear hb2); (try clear hk); (try clear hi); (try clear ho0); obtain ⟨Ao28, co28, eo28⟩ := Kd.S_slice HO219.out; subst eo28) | ((with_reducible refine gate_callee (f := 12) rfl ?_); refine goesL_ (some 45) rfl rfl Try.func12 (by kernel_rfl) rfl #[.slice Ao17 t212.length co17, .slice Ao28 t217.length co28] rfl (by (try simp only [List.map_toArray, List.map_cons, List.map_nil]); first | done | rfl | (simp only [List.length_drop, List.length_take]; rfl)) ?_; (with_reducible refine (laws_eqPersonS.calls kj10 _ _ t212 _ _ t217 false _ ?side1 ?side2 ?side3 ?side4 A22.out).mono ?_); (case side1 => repeat (first | exact (Kd.S_reads' HO_8.out).2.2 | (with_reducible refine Kd.C_alloc ?_ _) | (with_reducible refine Kd.C_drewN ?_ _) | (with_reducible refine Kd.C_drew ?_))); (case side2 => exact (Kd.S_reads' HO_8.out).2.1); (case side3 => repeat (first | exact (Kd.S_reads' HO219.out).2.2 | (with_reducible refine Kd.C_alloc ?_ _) | (with_reducible refine Kd.C_drewN ?_ _) | (with_reducible refine Kd.C_drew ?_))); (case side4 => exact (Kd.S_reads' HO219.out).2.1); rintro e w29 ⟨rfl, hb⟩; refine ⟨_, rfl, ?_⟩; have n0_ := Aside0.mk (Kd.S_below (by (with_reducible repeat (first | apply Kd.S_alloc | apply Kd.S_drewN | apply Kd.S_drew)); exact HO_8.out) hb); have n1_ := Aside0.mk (Kd.S_below (by (with_reducible repeat (first | apply Kd.S_alloc | apply Kd.S_drewN | apply Kd.S_drew)); exact HO219.out) hb); have n2_ := Aside0.mk (below_step (by repeat (first | (with_reducible first | exact HB.out | apply below_alloc | apply pw_below_drewN | apply below_drew1) | exact HB.out)) hb); clear HO_8; clear HO219; clear HB; have HO_8 := n0_; have HO219 := n1_; have HB := n2_; clear n0_ n1_ n2_; (try clear hb); (try clear hb2); (try clear hk); (try clear hi)))
              go_ret
              exact ⟨by first | rfl | (simp [errW_none, errW_some] <;> rfl) | (simp [*, errW_none, errW_some] <;> rfl), by repeat (first | (with_reducible first | exact HB.out | apply below_alloc | apply pw_below_drewN | apply below_drew1) | exact HB.out)⟩

end Go.Proofs.Ytfjnjcefcoboaaa.P

/- What is left to show of the law FnExactCountLines, in plain words (Pure), and the machine's side of it (walk). No condition beyond the readings' bounds. -/
namespace Go.Proofs.Ytfjnjcefcoboaaa.P
open Go.RowKit Go.Proofs.YtfjnjcefcoboaaaW.PrintWords
set_option linter.unusedVariables false
def ok_T34 (x : S34) : Prop := x.f0.size ≤ maxLen ∧ (Lit.int .i64 x.f1).wf = true ∧ (x.f2.length ≤ maxLen ∧ ∀ y0_ ∈ x.f2, y0_.size ≤ maxLen)
def laws_FnExactCountLines.Pure : Prop := ∀ (l0 : List (S34)) (a1 : ByteArray), (l0.length ≤ maxLen ∧ ∀ y0_ ∈ l0, ok_T34 y0_) → a1.size ≤ maxLen → ∃ k, laws_FnExactCountLines.f k l0 a1 = some true
theorem laws_FnExactCountLines.walk (P : laws_FnExactCountLines.Pure) (A0 : Option Addr) (c0 : Nat) (l0 : List (S34)) (a1 : ByteArray) (w : World) (hr0 : Kd.C k34 w A0 l0.length l0) (hc0 : l0.length ≤ c0) (ho0 : (l0.length ≤ maxLen ∧ ∀ y0_ ∈ l0, ok_T34 y0_)) (ho1 : a1.size ≤ maxLen) :
    Calls Try.prog 3 #[.slice A0 l0.length c0, .string a1] w fun e w' => e = .returned (.bool true) ∧ Below w.heap.size w w' := by
  obtain ⟨k, h⟩ := P l0 a1 ho0 ho1
  refine (laws_FnExactCountLines.calls k _ _ l0 a1 true w hr0 hc0 h).mono ?_
  rintro e w' ⟨rfl, hd⟩
  exact ⟨rfl, hd⟩
end Go.Proofs.Ytfjnjcefcoboaaa.P

/- Words of this session's own over plain functions with rounds: tests, loops that count up, first places, all places. No condition. -/
namespace Go.Proofs.YtfjnjcefcoboaaaW.PrintWords
open Go.RowKit
theorem Ev.pos {α : Type} {c : Prop} [Decidable c] {a b : Nat → Option α} {r : α} (h : c) (e : Ev a r) : Ev (fun k => if c then a k else b k) r := by simpa only [if_pos h] using e
theorem Ev.neg {α : Type} {c : Prop} [Decidable c] {a b : Nat → Option α} {r : α} (h : ¬ c) (e : Ev b r) : Ev (fun k => if c then a k else b k) r := by simpa only [if_neg h] using e
theorem Ev.eq {α : Type} {g : Nat → Option α} {r r' : α} (e : Ev g r) (h : r = r') : Ev g r' := h ▸ e
theorem Ev.uniq {α : Type} {g : Nat → Option α} {r r' : α} (e : Ev g r) (e' : Ev g r') : r = r' := by
  obtain ⟨K, h⟩ := e
  obtain ⟨K', h'⟩ := e'
  have h1 := h (max K K') (by omega)
  have h2 := h' (max K K') (by omega)
  rw [h1] at h2
  injection h2
theorem wrap64_of {x : Int} (h0 : -9223372036854775808 ≤ x) (h1 : x ≤ 9223372036854775807) : wrap64 x = x := by unfold wrap64; omega
theorem wrap64_up {i : Nat} (h : i < 9223372036854775807) : wrap64 ((i : Int) + 1) = ((i + 1 : Nat) : Int) := by unfold wrap64; omega
theorem wrap64_dn {i : Nat} (h : 0 < i) (h' : i ≤ 9223372036854775807) : wrap64 ((i : Int) - 1) = ((i - 1 : Nat) : Int) := by unfold wrap64; omega
/-- A loop that counts up to n: told from behind. -/
theorem Ev.up {β σ : Type} (L : Nat → σ → Int → Option β) (n : Nat) (M : σ → Nat → β) (hend : ∀ s, Ev (fun k => L k s (n : Int)) (M s n))
    (hstep : ∀ i, i < n → (∀ s, Ev (fun k => L k s ((i + 1 : Nat) : Int)) (M s (i + 1))) → ∀ s, Ev (fun k => L k s (i : Int)) (M s i)) : ∀ i, i ≤ n → ∀ s, Ev (fun k => L k s (i : Int)) (M s i) := by
  intro i hi
  obtain ⟨d, hd⟩ : ∃ d, n = i + d := ⟨n - i, by omega⟩
  induction d generalizing i with
  | zero => intro s; have : i = n := by omega
            subst this; exact hend s
  | succ d ih => exact hstep i (by omega) (ih (i + 1) (by omega) (by omega))
def allF (p : Nat → Bool) : Nat → Nat → Bool
  | 0, _ => true
  | d + 1, i => p i && allF p d (i + 1)
theorem allF_iff (p : Nat → Bool) : ∀ d i, allF p d i = true ↔ ∀ j, i ≤ j → j < i + d → p j = true
  | 0, i => ⟨fun _ j h1 h2 => by omega, fun _ => rfl⟩
  | d + 1, i => by
    simp only [allF, Bool.and_eq_true, allF_iff p d (i + 1)]
    constructor
    · rintro ⟨h1, h2⟩ j h3 h4
      by_cases e : j = i
      · subst e; exact h1
      · exact h2 j (by omega) (by omega)
    · intro h
      exact ⟨h i (Nat.le_refl _) (by omega), fun j h1 h2 => h j (by omega) (by omega)⟩
theorem Ev.allR {L : Nat → Int → Option Bool} (p : Nat → Bool) (n : Nat) (R : Bool) (hend : Ev (fun k => L k (n : Int)) R) (hstep : ∀ i, i < n → ∀ r, Ev (fun k => L k ((i + 1 : Nat) : Int)) r → Ev (fun k => L k (i : Int)) (p i && r)) : Ev (fun k => L k 0) (allF p n 0 && R) := by
  have h := Ev.up (fun k (_ : Unit) i => L k i) n (fun _ i => allF p (n - i) i && R) (fun _ => by rw [Nat.sub_self]; simpa [allF] using hend) (fun i hi ih _ => by
    rw [show n - i = (n - (i + 1)) + 1 by omega, allF, Bool.and_assoc]
    exact hstep i hi _ (ih ())) 0 (Nat.zero_le _) ()
  simpa using h
def fndF (p : Nat → Bool) : Nat → Nat → Int
  | 0, _ => -1
  | d + 1, i => if p i = true then (i : Int) else fndF p d (i + 1)
theorem Ev.first {L : Nat → Int → Option Int} (p : Nat → Bool) (n : Nat) (hend : Ev (fun k => L k (n : Int)) (-1)) (hstep : ∀ i, i < n → ∀ r, Ev (fun k => L k ((i + 1 : Nat) : Int)) r → Ev (fun k => L k (i : Int)) (if p i = true then (i : Int) else r)) : Ev (fun k => L k 0) (fndF p n 0) := by
  have h := Ev.up (fun k (_ : Unit) i => L k i) n (fun _ i => fndF p (n - i) i) (fun _ => by rw [Nat.sub_self]; exact hend) (fun i hi ih _ => by
    rw [show n - i = (n - (i + 1)) + 1 by omega, fndF]
    exact hstep i hi _ (ih ())) 0 (Nat.zero_le _) ()
  simpa using h
theorem fndF_none {p : Nat → Bool} : ∀ {d i : Nat}, (∀ j, i ≤ j → j < i + d → p j = false) → fndF p d i = -1
  | 0, _, _ => rfl
  | d + 1, i, h => by rw [fndF, if_neg (by rw [h i (Nat.le_refl _) (by omega)]; decide)]; exact fndF_none fun j h1 h2 => h j (by omega) (by omega)
theorem fndF_spec (p : Nat → Bool) : ∀ (d i : Nat), (fndF p d i = -1 ∧ ∀ j, i ≤ j → j < i + d → p j = false) ∨ ∃ j : Nat, fndF p d i = j ∧ i ≤ j ∧ j < i + d ∧ p j = true ∧ ∀ q, i ≤ q → q < j → p q = false
  | 0, i => .inl ⟨rfl, fun j h1 h2 => by omega⟩
  | d + 1, i => by
    rw [fndF]
    by_cases h : p i = true
    · rw [if_pos h]
      exact .inr ⟨i, rfl, Nat.le_refl _, by omega, h, fun q h1 h2 => by omega⟩
    · rw [if_neg h]
      have h0 : p i = false := by simpa using h
      rcases fndF_spec p d (i + 1) with ⟨h1, h2⟩ | ⟨j, h1, h2, h3, h4, h5⟩
      · refine .inl ⟨h1, fun j h3 h4 => ?_⟩
        by_cases e : j = i
        · subst e; exact h0
        · exact h2 j (by omega) (by omega)
      · refine .inr ⟨j, h1, by omega, by omega, h4, fun q h6 h7 => ?_⟩
        by_cases e : q = i
        · subst e; exact h0
        · exact h5 q (by omega) h7
end Go.Proofs.YtfjnjcefcoboaaaW.PrintWords

/- Plain words on persons: which the printed functions of the reference and of the program come to: names, places, validity. No condition beyond lengths that a machine can hold. -/
namespace Go.Proofs.Ytfjnjcefcoboaaa.P
open Go.RowKit Go.Proofs.YtfjnjcefcoboaaaW.PrintWords Go.Proofs.YtfjnjcefcoboaaaW.PrintLast Go.Proofs.YtfjnjcefcoboaaaW.PrintMore
set_option linter.unusedVariables false
set_option linter.unusedSimpArgs false
abbrev PSn := S38
def pAt (l : List PSn) (i : Nat) : PSn := l.getD i z38
def sAt (l : List ByteArray) (i : Nat) : ByteArray := l.getD i ByteArray.empty
theorem rdP (l : List PSn) (i : Nat) : rd_T38 l (i : Int) = pAt l i := by simp [rd_T38, pAt]
theorem rdS (l : List ByteArray) (i : Nat) : rdOf ByteArray.empty l (i : Int) = sAt l i := by simp [rdOf, sAt]
/-! ### names -/
def okb (c : Int) : Bool := decide (97 ≤ c ∧ c ≤ 122) || decide (48 ≤ c ∧ c ≤ 57)
def nameB (s : ByteArray) : Bool := decide (1 ≤ s.size ∧ s.size ≤ 10) && (decide (97 ≤ bt s 0 ∧ bt s 0 ≤ 122) && allF (fun i => okb (bt s i)) s.size 0)
theorem toList_nil (s : ByteArray) : s.toList = ([] : List UInt8) ↔ s.size = 0 := by
  rw [ByteArray.toList_eq, ← data_length, List.length_eq_zero_iff]
theorem small_ev (c : Int) : spec_l01Small.f c = some (decide (97 ≤ c ∧ c ≤ 122)) := by
  unfold spec_l01Small.f
  by_cases h : c ≥ 97
  · rw [if_pos h]; congr 1; simp; omega
  · rw [if_neg h]; congr 1; simp; omega
theorem digit_ev (c : Int) : spec_l01Digit.f c = some (decide (48 ≤ c ∧ c ≤ 57)) := by
  unfold spec_l01Digit.f
  by_cases h : c ≥ 48
  · rw [if_pos h]; congr 1; simp; omega
  · rw [if_neg h]; congr 1; simp; omega
theorem specName_ev (s : ByteArray) : Ev (fun k => spec_l01Name.f k s) (nameB s) := by
  have hj : Ev (fun k => spec_l01Name.j0 k s true) false := Ev.step (f := fun k => some false) (fun k => by simp [spec_l01Name.j0]) (Ev.now _)
  unfold spec_l01Name.f
  by_cases h0 : s.size = 0
  · refine Ev.pos ((toList_nil s).2 h0) (hj.eq ?_)
    simp [nameB, h0]
  · refine Ev.neg (fun h => h0 ((toList_nil s).1 h)) ?_
    by_cases h1 : (s.size : Int) > 10
    · refine Ev.pos h1 (hj.eq ?_)
      have : ¬ s.size ≤ 10 := by omega
      simp [nameB, this]
    · refine Ev.neg h1 (Ev.pos (by omega) ?_)
      simp only [small_ev, Option.bind_some]
      have h2 : decide (1 ≤ s.size ∧ s.size ≤ 10) = true := by simp; omega
      unfold nameB
      rw [h2, Bool.true_and]
      by_cases h3 : 97 ≤ bt s 0 ∧ bt s 0 ≤ 122
      · rw [decide_eq_true h3, Bool.true_and]
        refine Ev.step (f := fun k => spec_l01Name.l0 k s 0) (fun k => by simp [spec_l01Name.j0]) ?_
        have := Ev.allR (L := fun k i => spec_l01Name.l0 k s i) (fun i => okb (bt s i)) s.size true ?_ ?_
        · simpa using this
        · exact Ev.step (f := fun k => some true) (fun k => by simp [spec_l01Name.l0]) (Ev.now _)
        · intro i hi r hr
          have e1 : (i : Int) < (s.size : Int) := by omega
          have e2 : (0 : Int) ≤ (i : Int) := by omega
          by_cases c1 : 97 ≤ bt s i ∧ bt s i ≤ 122
          · refine Ev.step (f := fun k => spec_l01Name.l0 k s ((i + 1 : Nat) : Int)) (fun k => ?_) (hr.eq ?_)
            · simp only [spec_l01Name.l0, if_pos e1, if_pos e2, small_ev, Option.bind_some, decide_eq_true c1, if_true]
              rw [wrap64_up (by omega)]
            · simp [okb, c1]
          · by_cases c2 : 48 ≤ bt s i ∧ bt s i ≤ 57
            · refine Ev.step (f := fun k => spec_l01Name.l0 k s ((i + 1 : Nat) : Int)) (fun k => ?_) (hr.eq ?_)
              · simp only [spec_l01Name.l0, if_pos e1, if_pos e2, small_ev, digit_ev, Option.bind_some, decide_eq_false c1, decide_eq_true c2, if_true, Bool.false_eq_true, if_false]
                rw [wrap64_up (by omega)]
              · simp [okb, c2]
            · refine Ev.step (f := fun k => some false) (fun k => ?_) ((Ev.now _).eq ?_)
              · simp only [spec_l01Name.l0, if_pos e1, if_pos e2, small_ev, digit_ev, Option.bind_some, decide_eq_false c1, decide_eq_false c2, Bool.false_eq_true, if_false]
              · simp [okb, c1, c2]
      · rw [decide_eq_false h3, Bool.false_and]
        exact hj
theorem implName_ev (s : ByteArray) : Ev (fun k => impl_IsName.f k s) (nameB s) := by
  unfold impl_IsName.f
  by_cases h0 : (s.size : Int) < 1
  · refine Ev.pos h0 ((Ev.now _).eq ?_)
    have : ¬ 1 ≤ s.size := by omega
    simp [nameB, this]
  refine Ev.neg h0 ?_
  by_cases h1 : (s.size : Int) > 10
  · refine Ev.pos h1 ((Ev.now _).eq ?_)
    have : ¬ s.size ≤ 10 := by omega
    simp [nameB, this]
  refine Ev.neg h1 (Ev.pos (by omega) ?_)
  have h2 : decide (1 ≤ s.size ∧ s.size ≤ 10) = true := by simp; omega
  unfold nameB
  rw [h2, Bool.true_and]
  by_cases h3 : (bt s 0) < 97
  · refine Ev.pos h3 ((Ev.now _).eq ?_)
    have : ¬ 97 ≤ bt s 0 := by omega
    simp [this]
  refine Ev.neg h3 ?_
  by_cases h4 : (bt s 0) > 122
  · refine Ev.pos h4 ((Ev.now _).eq ?_)
    have : ¬ bt s 0 ≤ 122 := by omega
    simp [this]
  refine Ev.neg h4 ?_
  rw [decide_eq_true (show 97 ≤ bt s 0 ∧ bt s 0 ≤ 122 by omega), Bool.true_and]
  refine Ev.bind (a := allF (fun i => okb (bt s i)) s.size 0) ?_ (Ev.now _)
  unfold impl_onlyNameBytes.f
  have := Ev.allR (L := fun k i => impl_onlyNameBytes.l0 k s (s.size : Int) i) (fun i => okb (bt s i)) s.size true ?_ ?_
  · simpa using this
  · exact Ev.step (f := fun k => some true) (fun k => by simp [impl_onlyNameBytes.l0]) (Ev.now _)
  · intro i hi r hr
    have e1 : (i : Int) < (s.size : Int) := by omega
    have e2 : (0 : Int) ≤ (i : Int) := by omega
    have key : okb (bt s i) = true ∧ (∀ k, impl_onlyNameBytes.l0 (k + 1) s (s.size : Int) (i : Int) = impl_onlyNameBytes.l0 k s (s.size : Int) ((i + 1 : Nat) : Int)) ∨ okb (bt s i) = false ∧ (∀ k, impl_onlyNameBytes.l0 (k + 1) s (s.size : Int) (i : Int) = some false) := by
      simp only [impl_onlyNameBytes.l0, if_pos e1, if_pos e2]
      rw [wrap64_up (by omega)]
      unfold okb
      by_cases a1 : bt s i < 97 <;> by_cases a2 : bt s i < 48 <;> by_cases a3 : bt s i > 57 <;> by_cases a4 : bt s i > 122 <;> simp [a1, a2, a3, a4] <;> omega
    rcases key with ⟨k1, k2⟩ | ⟨k1, k2⟩
    · exact Ev.step k2 (hr.eq (by rw [k1, Bool.true_and]))
    · exact Ev.step k2 ((Ev.now _).eq (by rw [k1, Bool.false_and]))
/-! ### the place of a name -/
def fnd (l : List PSn) (nm : List UInt8) : Int := fndF (fun i => decide ((pAt l i).f0.toList = nm)) l.length 0
theorem find_ev (l : List PSn) (nm : ByteArray) (hl : l.length ≤ maxLen) : Ev (fun k => spec_l30Find.f k l nm) (fnd l nm.toList) := by
  unfold maxLen at hl
  unfold spec_l30Find.f
  refine Ev.first (L := fun k i => spec_l30Find.l0 k l nm i) _ l.length ?_ ?_
  · exact Ev.step (f := fun k => some (-1)) (fun k => by simp [spec_l30Find.l0]) (Ev.now _)
  · intro i hi r hr
    have e1 : (i : Int) < (l.length : Int) := by omega
    have e2 : (0 : Int) ≤ (i : Int) := by omega
    by_cases h : (pAt l i).f0.toList = nm.toList
    · refine Ev.step (f := fun k => some (i : Int)) (fun k => ?_) ((Ev.now _).eq (by simp [h]))
      simp only [spec_l30Find.l0, if_pos e1, if_pos e2, rdP, if_pos h]
    · refine Ev.step (f := fun k => spec_l30Find.l0 k l nm ((i + 1 : Nat) : Int)) (fun k => ?_) (hr.eq (by simp [h]))
      simp only [spec_l30Find.l0, if_pos e1, if_pos e2, rdP, if_neg h]
      rw [wrap64_up (by omega)]
theorem personAt_ev (l : List PSn) (nm : ByteArray) (hl : l.length ≤ maxLen) : Ev (fun k => impl_personAt.f k l nm) (fnd l nm.toList) := by
  unfold maxLen at hl
  unfold impl_personAt.f
  refine Ev.bind (a := fnd l nm.toList) ?_ (Ev.now _)
  unfold impl_Person_66_at_impl_personAt_1.f
  refine Ev.first (L := fun k i => impl_Person_66_at_impl_personAt_1.l0 k l (l.length : Int) i nm) _ l.length ?_ ?_
  · exact Ev.step (f := fun k => some (-1)) (fun k => by simp [impl_Person_66_at_impl_personAt_1.l0]) (Ev.now _)
  · intro i hi r hr
    have e1 : (i : Int) < (l.length : Int) := by omega
    have e2 : (0 : Int) ≤ (i : Int) := by omega
    by_cases h : (pAt l i).f0.toList = nm.toList
    · refine Ev.step (f := fun k => some (i : Int)) (fun k => ?_) ((Ev.now _).eq (by simp [h]))
      simp only [impl_Person_66_at_impl_personAt_1.l0, if_pos e1, if_pos e2, rdP, impl_personAt_1.f, h, Option.bind_some, beq_self_eq_true, if_true]
    · refine Ev.step (f := fun k => impl_Person_66_at_impl_personAt_1.l0 k l (l.length : Int) ((i + 1 : Nat) : Int) nm) (fun k => ?_) (hr.eq (by simp [h]))
      have hb : ((pAt l i).f0.toList == nm.toList) = false := by simpa using h
      simp only [impl_Person_66_at_impl_personAt_1.l0, if_pos e1, if_pos e2, rdP, impl_personAt_1.f, hb, Option.bind_some, Bool.false_eq_true, if_false]
      rw [wrap64_up (by omega)]
theorem fnd_cases (l : List PSn) (nm : List UInt8) : (fnd l nm = -1 ∧ ∀ j, j < l.length → (pAt l j).f0.toList ≠ nm) ∨ ∃ j : Nat, fnd l nm = j ∧ j < l.length ∧ (pAt l j).f0.toList = nm ∧ ∀ q, q < j → (pAt l q).f0.toList ≠ nm := by
  rcases fndF_spec (fun i => decide ((pAt l i).f0.toList = nm)) l.length 0 with ⟨h1, h2⟩ | ⟨j, h1, _, h3, h4, h5⟩
  · exact .inl ⟨h1, fun j hj => by simpa using h2 j (Nat.zero_le _) (by omega)⟩
  · exact .inr ⟨j, h1, by omega, by simpa using h4, fun q hq => by simpa using h5 q (Nat.zero_le _) hq⟩
theorem fnd_lt (l : List PSn) (nm : List UInt8) : fnd l nm < (l.length : Int) := by
  rcases fnd_cases l nm with ⟨h, _⟩ | ⟨j, h, h2, _⟩ <;> omega
theorem fnd_ge (l : List PSn) (nm : List UInt8) : -1 ≤ fnd l nm := by
  rcases fnd_cases l nm with ⟨h, _⟩ | ⟨j, h, h2, _⟩ <;> omega
/-! ### validity -/
def tOk (l : List PSn) (i k : Nat) : Bool :=
  decide (0 ≤ fnd l (sAt (pAt l i).f2 k).toList) && (decide ((rd_T38 l (fnd l (sAt (pAt l i).f2 k).toList)).f1 < (pAt l i).f1) && (decide (k = 0) || Op.bytesLess (sAt (pAt l i).f2 (k - 1)).toList (sAt (pAt l i).f2 k).toList))
def pOk (l : List PSn) (i : Nat) : Bool :=
  nameB (pAt l i).f0 && (decide (0 ≤ (pAt l i).f1 ∧ (pAt l i).f1 ≤ 3000) && (decide ((pAt l i).f2.length ≤ 4) && ((decide (i = 0) || Op.bytesLess (pAt l (i - 1)).f0.toList (pAt l i).f0.toList) && allF (tOk l i) (pAt l i).f2.length 0)))
def validB (l : List PSn) : Bool := decide (l.length ≤ 24) && allF (pOk l) l.length 0
theorem in_ev (a b c : Int) : spec_l00In.f a b c = some (decide (b ≤ a ∧ a ≤ c)) := by
  unfold spec_l00In.f
  by_cases h : a ≥ b
  · rw [if_pos h]; congr 1; simp; omega
  · rw [if_neg h]; congr 1; simp; omega
theorem within_ev (a b c : Int) : impl_within.f a b c = some (decide (b ≤ a ∧ a ≤ c)) := by
  unfold impl_within.f
  by_cases h : a ≥ b
  · rw [if_pos h]; congr 1; simp; omega
  · rw [if_neg h]; congr 1; simp; omega
def bnd (l : List PSn) : Prop := l.length ≤ 9000000000000000000 ∧ ∀ i, (pAt l i).f2.length ≤ 9000000000000000000
theorem specOk_l1 (l : List PSn) (hb : bnd l) (i : Nat) (hi : i < l.length) (r : Bool) (hr : Ev (fun k => spec_l30Ok.l0 k l ((i + 1 : Nat) : Int)) r) : Ev (fun k => spec_l30Ok.l1 k l (i : Int) 0) (allF (tOk l i) (pAt l i).f2.length 0 && r) := by
  have hb1 := hb.1
  have hb2 := hb.2 i
  refine Ev.allR (L := fun k q => spec_l30Ok.l1 k l (i : Int) q) (tOk l i) (pAt l i).f2.length r ?_ ?_
  · refine Ev.step (fun k => spec_l30Ok.l1.eq_2 _ _ _ k) (Ev.pos (by omega) (Ev.pos (by omega) (Ev.neg (by rw [rdP]; omega) ?_)))
    rw [wrap64_up (by omega)]
    exact hr
  · intro q hq s hs
    refine Ev.step (fun k => spec_l30Ok.l1.eq_2 _ _ _ k) (Ev.pos (by omega) (Ev.pos (by omega) (Ev.pos (by rw [rdP]; omega) (Ev.pos (by omega) ?_))))
    simp only [rdP, rdS]
    refine Ev.bind (find_ev l _ (by unfold maxLen; omega)) ?_
    unfold tOk
    by_cases h1 : 0 ≤ fnd l (sAt (pAt l i).f2 q).toList
    rotate_left
    · exact Ev.pos (by omega) ((Ev.now _).eq (by simp [h1]))
    refine Ev.neg (by omega) (Ev.pos h1 (Ev.pos (fnd_lt _ _) ?_))
    rw [decide_eq_true h1, Bool.true_and]
    by_cases h2 : (rd_T38 l (fnd l (sAt (pAt l i).f2 q).toList)).f1 < (pAt l i).f1
    rotate_left
    · exact Ev.pos (by omega) ((Ev.now _).eq (by simp [h2]))
    refine Ev.neg (by omega) ?_
    rw [decide_eq_true h2, Bool.true_and]
    by_cases h3 : q = 0
    · subst h3
      refine Ev.neg (by omega) ?_
      rw [wrap64_up (by omega)]
      exact hs.eq (by simp)
    · refine Ev.pos (by omega) ?_
      rw [wrap64_dn (by omega) (by omega)]
      refine Ev.pos (by omega) (Ev.pos (by omega) ?_)
      simp only [rdS]
      by_cases h4 : Op.bytesLess (sAt (pAt l i).f2 (q - 1)).toList (sAt (pAt l i).f2 q).toList = true
      · refine Ev.pos h4 ?_
        rw [wrap64_up (by omega)]
        exact hs.eq (by simp [h4])
      · exact Ev.neg h4 ((Ev.now _).eq (by simp [h3, h4]))
theorem specOk_ev (l : List PSn) (hb : bnd l) : Ev (fun k => spec_l30Ok.f k l) (validB l) := by
  have hb1 := hb.1
  unfold spec_l30Ok.f validB
  rw [Bool.and_comm]
  refine Ev.allR (L := fun k q => spec_l30Ok.l0 k l q) (pOk l) l.length _ ?_ ?_
  · exact Ev.step (fun k => spec_l30Ok.l0.eq_2 _ _ k) (Ev.neg (by omega) ((Ev.now _).eq (by congr 1; simp; omega)))
  · intro i hi r hr
    have hf : ∀ k, spec_l30Ok.j1 (k + 1) l (i : Int) true = some false := fun k => by simp [spec_l30Ok.j1]
    have hf' : Ev (fun k => spec_l30Ok.j1 k l (i : Int) true) false := Ev.step hf (Ev.now _)
    have ht : Ev (fun k => spec_l30Ok.j1 k l (i : Int) false) (allF (tOk l i) (pAt l i).f2.length 0 && r) := Ev.step (f := fun k => spec_l30Ok.l1 k l (i : Int) 0) (fun k => by simp [spec_l30Ok.j1]) (specOk_l1 l hb i hi r hr)
    refine Ev.step (fun k => spec_l30Ok.l0.eq_2 _ _ k) (Ev.pos (by omega) (Ev.pos (by omega) (Ev.bind (specName_ev _) ?_)))
    simp only [rdP, in_ev, Option.bind_some]
    unfold pOk
    by_cases h1 : nameB (pAt l i).f0 = true
    rotate_left
    · exact Ev.neg h1 (hf'.eq (by simp [h1]))
    refine Ev.pos h1 ?_
    by_cases h2 : 0 ≤ (pAt l i).f1 ∧ (pAt l i).f1 ≤ 3000
    rotate_left
    · rw [decide_eq_false h2]
      exact Ev.neg (by decide) (hf'.eq (by simp))
    rw [decide_eq_true h2]
    refine Ev.pos rfl ?_
    by_cases h3 : (pAt l i).f2.length ≤ 4
    rotate_left
    · exact Ev.pos (by omega) (hf'.eq (by simp [h3]))
    refine Ev.neg (by omega) ?_
    rw [h1, decide_eq_true h3]
    by_cases h4 : i = 0
    · subst h4
      exact Ev.neg (by omega) (ht.eq (by simp))
    · refine Ev.pos (by omega) ?_
      rw [wrap64_dn (by omega) (by omega)]
      refine Ev.pos (by omega) (Ev.pos (by omega) ?_)
      simp only [rdP]
      by_cases h5 : Op.bytesLess (pAt l (i - 1)).f0.toList (pAt l i).f0.toList = true
      · rw [h5]
        exact ht.eq (by simp)
      · have h5' : Op.bytesLess (pAt l (i - 1)).f0.toList (pAt l i).f0.toList = false := by simpa using h5
        rw [h5']
        exact hf'.eq (by simp [h4])
theorem implOk_l1 (l : List PSn) (hb : bnd l) (i : Nat) (hi : i < l.length) (r : Bool) (hr : Ev (fun k => impl_ValidPersons.l0 k l l (l.length : Int) ((i + 1 : Nat) : Int)) r) :
    Ev (fun k => impl_ValidPersons.l1 k l l (l.length : Int) (i : Int) (pAt l i).f2 ((pAt l i).f2.length : Int) 0 (pAt l i).f0 (pAt l i).f1 (pAt l i).f2) (allF (tOk l i) (pAt l i).f2.length 0 && r) := by
  have hb1 := hb.1
  have hb2 := hb.2 i
  refine Ev.allR (L := fun k q => impl_ValidPersons.l1 k l l (l.length : Int) (i : Int) (pAt l i).f2 ((pAt l i).f2.length : Int) q (pAt l i).f0 (pAt l i).f1 (pAt l i).f2) (tOk l i) (pAt l i).f2.length r ?_ ?_
  · refine Ev.step (fun k => impl_ValidPersons.l1.eq_2 _ _ _ _ _ _ _ _ _ _ k) (Ev.neg (by omega) ?_)
    rw [wrap64_up (by omega)]
    exact hr
  · intro q hq s hs
    refine Ev.step (fun k => impl_ValidPersons.l1.eq_2 _ _ _ _ _ _ _ _ _ _ k) (Ev.pos (by omega) (Ev.pos (by omega) (Ev.pos (by omega) ?_)))
    simp only [rdP, rdS]
    refine Ev.bind (personAt_ev l _ (by unfold maxLen; omega)) ?_
    unfold tOk
    by_cases h1 : 0 ≤ fnd l (sAt (pAt l i).f2 q).toList
    rotate_left
    · exact Ev.pos (by omega) ((Ev.now _).eq (by simp [h1]))
    refine Ev.neg (by omega) (Ev.pos h1 (Ev.pos (fnd_lt _ _) ?_))
    rw [decide_eq_true h1, Bool.true_and]
    by_cases h2 : (rd_T38 l (fnd l (sAt (pAt l i).f2 q).toList)).f1 < (pAt l i).f1
    rotate_left
    · exact Ev.pos (by omega) ((Ev.now _).eq (by simp [h2]))
    refine Ev.neg (by omega) ?_
    rw [decide_eq_true h2, Bool.true_and]
    by_cases h3 : q = 0
    · subst h3
      refine Ev.neg (by omega) ?_
      rw [wrap64_up (by omega)]
      exact hs.eq (by simp)
    · refine Ev.pos (by omega) ?_
      rw [wrap64_dn (by omega) (by omega)]
      refine Ev.pos (by omega) (Ev.pos (by omega) ?_)
      simp only [rdS]
      by_cases h4 : Op.bytesLess (sAt (pAt l i).f2 (q - 1)).toList (sAt (pAt l i).f2 q).toList = true
      · refine Ev.pos h4 ?_
        rw [wrap64_up (by omega)]
        exact hs.eq (by simp [h4])
      · exact Ev.neg h4 ((Ev.now _).eq (by simp [h3, h4]))
theorem implOk_ev (l : List PSn) (hb : bnd l) : Ev (fun k => impl_ValidPersons.f k l) (validB l) := by
  have hb1 := hb.1
  unfold impl_ValidPersons.f validB
  by_cases h0 : l.length ≤ 24
  rotate_left
  · exact Ev.pos (by omega) ((Ev.now _).eq (by simp [h0]))
  refine Ev.neg (by omega) ?_
  rw [decide_eq_true h0, Bool.true_and, show allF (pOk l) l.length 0 = (allF (pOk l) l.length 0 && true) by simp]
  refine Ev.allR (L := fun k q => impl_ValidPersons.l0 k l l (l.length : Int) q) (pOk l) l.length true ?_ ?_
  · exact Ev.step (fun k => impl_ValidPersons.l0.eq_2 _ _ _ _ k) (Ev.neg (by omega) (Ev.now _))
  · intro i hi r hr
    have hf' : Ev (fun k => impl_ValidPersons.j1 k l l (l.length : Int) (i : Int) true (pAt l i).f0 (pAt l i).f1 (pAt l i).f2) false := Ev.step (f := fun k => some false) (fun k => by simp [impl_ValidPersons.j1]) (Ev.now _)
    have ht : Ev (fun k => impl_ValidPersons.j1 k l l (l.length : Int) (i : Int) false (pAt l i).f0 (pAt l i).f1 (pAt l i).f2) (allF (tOk l i) (pAt l i).f2.length 0 && r) := Ev.step (f := fun k => impl_ValidPersons.l1 k l l (l.length : Int) (i : Int) (pAt l i).f2 ((pAt l i).f2.length : Int) 0 (pAt l i).f0 (pAt l i).f1 (pAt l i).f2) (fun k => by simp [impl_ValidPersons.j1]) (implOk_l1 l hb i hi r hr)
    refine Ev.step (fun k => impl_ValidPersons.l0.eq_2 _ _ _ _ k) (Ev.pos (by omega) (Ev.pos (by omega) (Ev.pos (by omega) ?_)))
    simp only [rdP, within_ev, Option.bind_some]
    refine Ev.bind (implName_ev _) ?_
    unfold pOk
    by_cases h1 : nameB (pAt l i).f0 = true
    rotate_left
    · exact Ev.neg h1 (hf'.eq (by simp [h1]))
    refine Ev.pos h1 ?_
    by_cases h2 : 0 ≤ (pAt l i).f1 ∧ (pAt l i).f1 ≤ 3000
    rotate_left
    · rw [decide_eq_false h2]
      exact Ev.neg (by decide) (hf'.eq (by simp))
    rw [decide_eq_true h2]
    refine Ev.pos rfl ?_
    by_cases h3 : (pAt l i).f2.length ≤ 4
    rotate_left
    · exact Ev.pos (by omega) (hf'.eq (by simp [h3]))
    refine Ev.neg (by omega) ?_
    rw [h1, decide_eq_true h3]
    by_cases h4 : i = 0
    · subst h4
      exact Ev.neg (by omega) (ht.eq (by simp))
    · refine Ev.pos (by omega) ?_
      rw [wrap64_dn (by omega) (by omega)]
      refine Ev.pos (by omega) (Ev.pos (by omega) ?_)
      simp only [rdP]
      by_cases h5 : Op.bytesLess (pAt l (i - 1)).f0.toList (pAt l i).f0.toList = true
      · rw [h5]
        exact ht.eq (by simp)
      · have h5' : Op.bytesLess (pAt l (i - 1)).f0.toList (pAt l i).f0.toList = false := by simpa using h5
        rw [h5']
        exact hf'.eq (by simp [h4])
end Go.Proofs.Ytfjnjcefcoboaaa.P

/- Plain words on persons, further: codes, what valid persons are, the number of lines and the depth of a person. No condition beyond lengths that a machine can hold. -/
namespace Go.Proofs.Ytfjnjcefcoboaaa.P
open Go.RowKit Go.Proofs.YtfjnjcefcoboaaaW.PrintWords Go.Proofs.YtfjnjcefcoboaaaW.PrintLast Go.Proofs.YtfjnjcefcoboaaaW.PrintMore
set_option linter.unusedVariables false
set_option linter.unusedSimpArgs false
def ask (l : List PSn) (nm : List UInt8) : Int := if validB l = true then (if fnd l nm < 0 then 3 else 0) else 1
theorem ask_ev (l : List PSn) (nm : ByteArray) (hb : bnd l) : Ev (fun k => spec_l30Ask.f k l nm) (ask l nm.toList) := by
  have hb1 := hb.1
  unfold spec_l30Ask.f ask
  refine Ev.bind (specOk_ev l hb) ?_
  by_cases h : validB l = true
  · refine (Ev.pos h (Ev.bind (find_ev l nm (by unfold maxLen; omega)) ?_)).eq (if_pos h).symm
    by_cases h2 : fnd l nm.toList < 0
    · exact (Ev.pos h2 (Ev.now _)).eq (if_pos h2).symm
    · exact (Ev.neg h2 (Ev.now _)).eq (if_neg h2).symm
  · exact (Ev.neg h (Ev.now _)).eq (if_neg h).symm
def missing (l : List PSn) (ns : List ByteArray) : Bool := ns.any fun nm => decide (fnd l nm.toList < 0)
def codeOf (l : List PSn) (ns : List ByteArray) : Int := if validB l = true then (if missing l ns = true then 3 else 0) else 1
theorem idx_ev (l : List PSn) (ns : List ByteArray) (hb : bnd l) (hn : ns.length ≤ 1000) : Ev (fun k => slices_IndexFunc_string_string_at_impl_personsCode_1.f k ns l) (fndF (fun i => decide (fnd l (sAt ns i).toList < 0)) ns.length 0) := by
  have hb1 := hb.1
  unfold slices_IndexFunc_string_string_at_impl_personsCode_1.f
  refine Ev.first (L := fun k i => slices_IndexFunc_string_string_at_impl_personsCode_1.l0 k ns (ns.length : Int) i l) _ ns.length ?_ ?_
  · exact Ev.step (fun k => slices_IndexFunc_string_string_at_impl_personsCode_1.l0.eq_2 _ _ _ _ k) (Ev.neg (by omega) (Ev.now _))
  · intro i hi r hr
    refine Ev.step (fun k => slices_IndexFunc_string_string_at_impl_personsCode_1.l0.eq_2 _ _ _ _ k) (Ev.pos (by omega) (Ev.pos (by omega) (Ev.pos (by omega) ?_)))
    simp only [rdS, impl_personsCode_1.f]
    refine Ev.bind (Ev.bind (personAt_ev l _ (by unfold maxLen; omega)) (Ev.now _)) ?_
    by_cases h : fnd l (sAt ns i).toList < 0
    · exact Ev.pos (by simpa using h) ((Ev.now _).eq (by simp [h]))
    · refine Ev.neg (by simpa using h) ?_
      rw [wrap64_up (by omega)]
      exact hr.eq (by simp [h])
theorem any_fndF (ns : List ByteArray) (q : ByteArray → Bool) : decide (fndF (fun i => q (sAt ns i)) ns.length 0 ≥ 0) = ns.any q := by
  rw [Bool.eq_iff_iff, decide_eq_true_iff, List.any_eq_true]
  rcases fndF_spec (fun i => q (sAt ns i)) ns.length 0 with ⟨h1, h2⟩ | ⟨j, h1, _, h3, h4, _⟩
  · rw [h1]
    constructor
    · intro h; omega
    · rintro ⟨x, hx, hq⟩
      obtain ⟨i, hi, rfl⟩ := List.mem_iff_getElem.1 hx
      have := h2 i (Nat.zero_le _) (by omega)
      rw [show sAt ns i = ns[i] by simp [sAt, List.getD_eq_getElem?_getD, List.getElem?_eq_getElem hi], hq] at this
      cases this
  · rw [h1]
    refine ⟨fun _ => ⟨sAt ns j, ?_, h4⟩, fun _ => by omega⟩
    have hj : j < ns.length := by omega
    rw [show sAt ns j = ns[j] by simp [sAt, List.getD_eq_getElem?_getD, List.getElem?_eq_getElem hj]]
    exact List.getElem_mem hj
theorem code_ev (l : List PSn) (ns : List ByteArray) (hb : bnd l) (hn : ns.length ≤ 1000) : Ev (fun k => impl_personsCode.f k l ns) (codeOf l ns) := by
  unfold impl_personsCode.f codeOf
  refine Ev.bind (implOk_ev l hb) ?_
  by_cases h : validB l = true
  · rw [if_pos h]
    refine Ev.pos h ?_
    unfold slices_ContainsFunc_string_string_at_impl_personsCode_1.f
    refine Ev.bind (Ev.bind (idx_ev l ns hb hn) (Ev.now _)) ?_
    rw [any_fndF ns (fun nm => decide (fnd l nm.toList < 0))]
    by_cases h2 : missing l ns = true
    · rw [if_pos h2]; exact Ev.pos h2 (Ev.now _)
    · rw [if_neg h2]; exact Ev.neg h2 (Ev.now _)
  · rw [if_neg h]
    exact Ev.neg h (Ev.now _)
/-! ### what valid persons are -/
structure Vld (l : List PSn) : Prop where
  len : l.length ≤ 24
  born : ∀ i, i < l.length → 0 ≤ (pAt l i).f1 ∧ (pAt l i).f1 ≤ 3000
  few : ∀ i, i < l.length → (pAt l i).f2.length ≤ 4
  name : ∀ i, i < l.length → nameB (pAt l i).f0 = true
  rise : ∀ i, i < l.length → 0 < i → Op.bytesLess (pAt l (i - 1)).f0.toList (pAt l i).f0.toList = true
  teach : ∀ i, i < l.length → ∀ q, q < (pAt l i).f2.length → tOk l i q = true
theorem vld_of {l : List PSn} (h : validB l = true) : Vld l := by
  unfold validB at h
  rw [Bool.and_eq_true, decide_eq_true_iff, allF_iff] at h
  obtain ⟨h1, h2⟩ := h
  have h3 : ∀ i, i < l.length → pOk l i = true := fun i hi => h2 i (Nat.zero_le _) (by omega)
  simp only [pOk, Bool.and_eq_true, decide_eq_true_iff, Bool.or_eq_true, allF_iff] at h3
  exact ⟨h1, fun i hi => (h3 i hi).2.1, fun i hi => (h3 i hi).2.2.1, fun i hi => (h3 i hi).1, fun i hi h0 => by
    rcases (h3 i hi).2.2.2.1 with h | h
    · omega
    · exact h, fun i hi q hq => (h3 i hi).2.2.2.2 q (Nat.zero_le _) (by omega)⟩
/-- The place of teacher q of person i. -/
def tAt (l : List PSn) (i q : Nat) : Nat := (fnd l (sAt (pAt l i).f2 q).toList).toNat
theorem Vld.tAt {l : List PSn} (V : Vld l) {i q : Nat} (hi : i < l.length) (hq : q < (pAt l i).f2.length) : fnd l (sAt (pAt l i).f2 q).toList = (tAt l i q : Int) ∧ tAt l i q < l.length ∧ (pAt l (tAt l i q)).f1 < (pAt l i).f1 ∧ (pAt l (tAt l i q)).f0.toList = (sAt (pAt l i).f2 q).toList := by
  have h := V.teach i hi q hq
  unfold tOk at h
  rw [Bool.and_eq_true, decide_eq_true_iff, Bool.and_eq_true, decide_eq_true_iff] at h
  obtain ⟨h1, h2, _⟩ := h
  rcases fnd_cases l (sAt (pAt l i).f2 q).toList with ⟨h3, _⟩ | ⟨j, h3, h4, h5, _⟩
  · omega
  · have e : P.tAt l i q = j := by unfold P.tAt; omega
    rw [e]
    rw [h3, rdP] at h2
    exact ⟨h3, h4, h2, h5⟩
theorem bytesLess_irrefl : ∀ a : List UInt8, Op.bytesLess a a = false
  | [] => by simp [Op.bytesLess]
  | x :: xs => by simp [Op.bytesLess, bytesLess_irrefl xs]
theorem bytesLess_trans : ∀ {a b c : List UInt8}, Op.bytesLess a b = true → Op.bytesLess b c = true → Op.bytesLess a c = true
  | _, [], _, h, _ => by simp [Op.bytesLess] at h
  | _, _ :: _, [], _, h => by simp [Op.bytesLess] at h
  | [], _ :: _, _ :: _, _, _ => by simp [Op.bytesLess]
  | x :: xs, y :: ys, z :: zs, h1, h2 => by
    simp only [Op.bytesLess, Bool.or_eq_true, decide_eq_true_eq, Bool.and_eq_true, beq_iff_eq] at h1 h2 ⊢
    rcases h1 with h1 | ⟨rfl, h1⟩
    · rcases h2 with h2 | ⟨rfl, h2⟩
      · exact .inl (UInt8.lt_trans h1 h2)
      · exact .inl h1
    · rcases h2 with h2 | ⟨rfl, h2⟩
      · exact .inl h2
      · exact .inr ⟨rfl, bytesLess_trans h1 h2⟩
theorem Vld.lt {l : List PSn} (V : Vld l) {i : Nat} : ∀ {j : Nat}, i < j → j < l.length → Op.bytesLess (pAt l i).f0.toList (pAt l j).f0.toList = true := by
  intro j hij hj
  induction j with
  | zero => omega
  | succ j ih =>
    have h := V.rise (j + 1) hj (by omega)
    by_cases e : i = j
    · subst e; exact h
    · exact bytesLess_trans (ih (by omega) (by omega)) h
theorem Vld.inj {l : List PSn} (V : Vld l) {i j : Nat} (hi : i < l.length) (hj : j < l.length) (h : (pAt l i).f0.toList = (pAt l j).f0.toList) : i = j := by
  rcases Nat.lt_trichotomy i j with h1 | h1 | h1
  · have := V.lt h1 hj; rw [h, bytesLess_irrefl] at this; cases this
  · exact h1
  · have := V.lt h1 hi; rw [h, bytesLess_irrefl] at this; cases this
theorem Vld.fnd {l : List PSn} (V : Vld l) {i : Nat} (hi : i < l.length) : fnd l (pAt l i).f0.toList = i := by
  rcases fnd_cases l (pAt l i).f0.toList with ⟨_, h⟩ | ⟨j, h1, h2, h3, _⟩
  · exact absurd rfl (h i hi)
  · rw [h1, V.inj h2 hi h3]
/-! ### lines and depths, by the year of birth -/
def sumN (f : Nat → Int) : Nat → Nat → Int
  | 0, _ => 0
  | d + 1, i => f i + sumN f d (i + 1)
def maxN (f : Nat → Int) : Nat → Nat → Int
  | 0, _ => 0
  | d + 1, i => max (f i) (maxN f d (i + 1))
/-- The number of lines, of persons that are born before d. -/
def lin (l : List PSn) : Nat → Nat → Int
  | 0, _ => 1
  | d + 1, i => if (pAt l i).f2.length = 0 then 1 else sumN (fun q => lin l d (tAt l i q)) (pAt l i).f2.length 0
def dpt (l : List PSn) : Nat → Nat → Int
  | 0, _ => 1
  | d + 1, i => 1 + maxN (fun q => dpt l d (tAt l i q)) (pAt l i).f2.length 0
theorem sumN_congr {f g : Nat → Int} : ∀ {d i : Nat}, (∀ j, i ≤ j → j < i + d → f j = g j) → sumN f d i = sumN g d i
  | 0, _, _ => rfl
  | d + 1, i, h => by rw [sumN, sumN, h i (Nat.le_refl _) (by omega), sumN_congr fun j h1 h2 => h j (by omega) (by omega)]
theorem maxN_congr {f g : Nat → Int} : ∀ {d i : Nat}, (∀ j, i ≤ j → j < i + d → f j = g j) → maxN f d i = maxN g d i
  | 0, _, _ => rfl
  | d + 1, i, h => by rw [maxN, maxN, h i (Nat.le_refl _) (by omega), maxN_congr fun j h1 h2 => h j (by omega) (by omega)]
theorem lin_stable {l : List PSn} (V : Vld l) : ∀ (d i : Nat), i < l.length → (pAt l i).f1 < (d : Int) → lin l d i = lin l (d + 1) i
  | 0, i, hi, h => by have := V.born i hi; omega
  | d + 1, i, hi, h => by
    rw [lin, lin]
    by_cases h0 : (pAt l i).f2.length = 0
    · rw [if_pos h0, if_pos h0]
    · rw [if_neg h0, if_neg h0]
      refine sumN_congr fun q _ hq => ?_
      obtain ⟨_, h1, h2, _⟩ := V.tAt hi (show q < (pAt l i).f2.length by omega)
      exact lin_stable V d _ h1 (by omega)
theorem dpt_stable {l : List PSn} (V : Vld l) : ∀ (d i : Nat), i < l.length → (pAt l i).f1 < (d : Int) → dpt l d i = dpt l (d + 1) i
  | 0, i, hi, h => by have := V.born i hi; omega
  | d + 1, i, hi, h => by
    rw [dpt, dpt]
    congr 1
    refine maxN_congr fun q _ hq => ?_
    obtain ⟨_, h1, h2, _⟩ := V.tAt hi (show q < (pAt l i).f2.length by omega)
    exact dpt_stable V d _ h1 (by omega)
def LL (l : List PSn) (i : Nat) : Int := lin l 3001 i
def DD (l : List PSn) (i : Nat) : Int := dpt l 3001 i
theorem LL_eq {l : List PSn} (V : Vld l) {i : Nat} (hi : i < l.length) : LL l i = if (pAt l i).f2.length = 0 then 1 else sumN (fun q => LL l (tAt l i q)) (pAt l i).f2.length 0 := by
  have h := V.born i hi
  unfold LL
  rw [lin_stable V 3001 i hi (by omega), lin]
theorem DD_eq {l : List PSn} (V : Vld l) {i : Nat} (hi : i < l.length) : DD l i = 1 + maxN (fun q => DD l (tAt l i q)) (pAt l i).f2.length 0 := by
  have h := V.born i hi
  unfold DD
  rw [dpt_stable V 3001 i hi (by omega), dpt]
end Go.Proofs.Ytfjnjcefcoboaaa.P

/- Words of this session's own: plain functions with rounds that come to some answer of a kind, and what the laws' readings of persons come to (sizes, copies, likeness). No condition beyond lengths that a machine can hold. -/
namespace Go.Proofs.Ytfjnjcefcoboaaa.P
open Go.RowKit Go.Proofs.YtfjnjcefcoboaaaW.PrintWords Go.Proofs.YtfjnjcefcoboaaaW.PrintLast Go.Proofs.YtfjnjcefcoboaaaW.PrintMore
set_option linter.unusedVariables false
set_option linter.unusedSimpArgs false
def EvP {α : Type} (g : Nat → Option α) (P : α → Prop) : Prop := ∃ r, Ev g r ∧ P r
theorem EvP.of {α : Type} {g : Nat → Option α} {P : α → Prop} {r : α} (h : Ev g r) (p : P r) : EvP g P := ⟨r, h, p⟩
theorem EvP.now {α : Type} {P : α → Prop} (r : α) (p : P r) : EvP (fun _ => some r) P := ⟨r, Ev.now r, p⟩
theorem EvP.mono {α : Type} {g : Nat → Option α} {P Q : α → Prop} (h : EvP g P) (m : ∀ r, P r → Q r) : EvP g Q := by
  obtain ⟨r, h, p⟩ := h
  exact ⟨r, h, m r p⟩
theorem EvP.bind {α β : Type} {g : Nat → Option α} {f : Nat → α → Option β} {P : α → Prop} {Q : β → Prop} (h : EvP g P) (k : ∀ a, P a → EvP (fun n => f n a) Q) : EvP (fun n => (g n).bind (f n)) Q := by
  obtain ⟨a, h, p⟩ := h
  obtain ⟨r, k, q⟩ := k a p
  exact ⟨r, Ev.bind h k, q⟩
theorem EvP.ev {α β : Type} {g : Nat → Option α} {f : Nat → α → Option β} {a : α} {Q : β → Prop} (h : Ev g a) (k : EvP (fun n => f n a) Q) : EvP (fun n => (g n).bind (f n)) Q := by
  obtain ⟨r, k, q⟩ := k
  exact ⟨r, Ev.bind h k, q⟩
theorem EvP.step {α : Type} {g f : Nat → Option α} {P : α → Prop} (h : ∀ k, g (k + 1) = f k) (k : EvP f P) : EvP g P := by
  obtain ⟨r, k, q⟩ := k
  exact ⟨r, Ev.step h k, q⟩
theorem EvP.pos {α : Type} {c : Prop} [Decidable c] {a b : Nat → Option α} {P : α → Prop} (h : c) (e : EvP a P) : EvP (fun k => if c then a k else b k) P := by simpa only [if_pos h] using e
theorem EvP.neg {α : Type} {c : Prop} [Decidable c] {a b : Nat → Option α} {P : α → Prop} (h : ¬ c) (e : EvP b P) : EvP (fun k => if c then a k else b k) P := by simpa only [if_neg h] using e
theorem getD_set {α : Type} (xs : List α) (i j : Nat) (v d : α) (h : i < xs.length) : (xs.set i v).getD j d = if j = i then v else xs.getD j d := by
  simp only [List.getD_eq_getElem?_getD, List.getElem?_set]
  by_cases e : j = i
  · subst e; simp [h]
  · rw [if_neg (fun h' => e h'.symm), if_neg e]
theorem ext_getD {α : Type} {xs ys : List α} (d : α) (h : xs.length = ys.length) (he : ∀ j, j < xs.length → xs.getD j d = ys.getD j d) : xs = ys := by
  refine List.ext_getElem h fun j h1 h2 => ?_
  have := he j h1
  simpa [List.getD_eq_getElem?_getD, List.getElem?_eq_getElem h1, List.getElem?_eq_getElem h2] using this
/-! ### sizes -/
theorem szStrS_l (l : List ByteArray) (hl : l.length ≤ 1048576) (hs : ∀ i, i < l.length → (sAt l i).size ≤ maxLen) : ∀ (d i : Nat) (x : Int), i + d = l.length → 0 ≤ x → x ≤ 1048576 → EvP (fun k => laws_szStringS.l0 k l x (i : Int)) (fun r => r ≤ x ∧ -1 ≤ r ∧ (0 ≤ r → ∀ j, i ≤ j → j < l.length → (sAt l j).size ≤ 1048576)) := by
  intro d
  induction d with
  | zero => exact fun i x hi h0 h1 => EvP.step (fun k => laws_szStringS.l0.eq_2 _ _ _ k) (EvP.neg (by omega) (EvP.now _ ⟨Int.le_refl _, by omega, fun _ j h2 h3 => by omega⟩))
  | succ d ih =>
    intro i x hi h0 h1
    have hz := hs i (by omega)
    unfold maxLen at hz
    refine EvP.step (fun k => laws_szStringS.l0.eq_2 _ _ _ k) (EvP.pos (by omega) (EvP.pos (by omega) ?_))
    simp only [rdS]
    rw [wrap64_of (by omega) (by omega), wrap64_up (by omega)]
    by_cases h : x - ((sAt l i).size : Int) < 0
    · exact EvP.pos h (EvP.now _ ⟨by omega, by omega, fun h => by omega⟩)
    · refine EvP.neg h ((ih (i + 1) _ (by omega) (by omega) (by omega)).mono fun r ⟨h2, h3, h4⟩ => ⟨by omega, h3, fun h5 j h6 h7 => ?_⟩)
      by_cases e : j = i
      · subst e; omega
      · exact h4 h5 j (by omega) h7
theorem szStrS (l : List ByteArray) (a : Int) (h0 : 0 ≤ a) (h1 : a ≤ 1048576) (hl : l.length ≤ maxLen) (hs : ∀ i, i < l.length → (sAt l i).size ≤ maxLen) : EvP (fun k => laws_szStringS.f k l a) (fun r => r ≤ a ∧ -1 ≤ r ∧ (0 ≤ r → l.length ≤ 1048576 ∧ ∀ j, j < l.length → (sAt l j).size ≤ 1048576)) := by
  unfold maxLen at hl
  unfold laws_szStringS.f
  rw [wrap64_of (by omega) (by omega)]
  by_cases h : a - (l.length : Int) < 0
  · exact EvP.pos h (EvP.now _ ⟨by omega, by omega, fun h => by omega⟩)
  · exact EvP.neg h ((szStrS_l l (by omega) hs l.length 0 _ (by omega) (by omega) (by omega)).mono fun r ⟨h2, h3, h4⟩ => ⟨by omega, h3, fun h5 => ⟨by omega, fun j hj => h4 h5 j (Nat.zero_le _) hj⟩⟩)
abbrev PLn := S34
def qAt (l : List PLn) (i : Nat) : PLn := l.getD i z34
theorem rdQ (l : List PLn) (i : Nat) : rd_T34 l (i : Int) = qAt l i := by simp [rd_T34, qAt]
/-- What a machine can hold. -/
def okQ (x : PLn) : Prop := x.f0.size ≤ maxLen ∧ x.f2.length ≤ maxLen ∧ ∀ i, i < x.f2.length → (sAt x.f2 i).size ≤ maxLen
/-- What the laws' measure leaves. -/
def smQ (x : PLn) : Prop := x.f0.size ≤ 1048576 ∧ x.f2.length ≤ 1048576 ∧ ∀ i, i < x.f2.length → (sAt x.f2 i).size ≤ 1048576
theorem szPers (x : PLn) (a : Int) (h0 : 0 ≤ a) (h1 : a ≤ 1048576) (hx : okQ x) : EvP (fun k => laws_szPerson.f k x.f0 x.f1 x.f2 a) (fun r => r ≤ a ∧ -1 ≤ r ∧ (0 ≤ r → smQ x)) := by
  obtain ⟨h2, h3, h4⟩ := hx
  unfold maxLen at h2
  unfold laws_szPerson.f
  rw [wrap64_of (by omega) (by omega)]
  by_cases h : a - (x.f0.size : Int) < 0
  · exact EvP.pos h (EvP.now _ ⟨by omega, by omega, fun h => by omega⟩)
  · refine EvP.neg h (EvP.bind (szStrS x.f2 _ (by omega) (by omega) h3 h4) fun r ⟨h5, h6, h7⟩ => ?_)
    by_cases h8 : r < 0
    · exact EvP.pos h8 (EvP.now _ ⟨by omega, by omega, fun h => by omega⟩)
    · exact EvP.neg h8 (EvP.now _ ⟨by omega, by omega, fun h => ⟨by omega, h7 h⟩⟩)
theorem szPersS_l (l : List PLn) (hl : l.length ≤ 1048576) (hs : ∀ i, i < l.length → okQ (qAt l i)) : ∀ (d i : Nat) (x : Int), i + d = l.length → 0 ≤ x → x ≤ 1048576 → EvP (fun k => laws_szPersonS.l0 k l x (i : Int)) (fun r => r ≤ x ∧ -1 ≤ r ∧ (0 ≤ r → ∀ j, i ≤ j → j < l.length → smQ (qAt l j))) := by
  intro d
  induction d with
  | zero => exact fun i x hi h0 h1 => EvP.step (fun k => laws_szPersonS.l0.eq_2 _ _ _ k) (EvP.neg (by omega) (EvP.now _ ⟨Int.le_refl _, by omega, fun _ j h2 h3 => by omega⟩))
  | succ d ih =>
    intro i x hi h0 h1
    refine EvP.step (fun k => laws_szPersonS.l0.eq_2 _ _ _ k) (EvP.pos (by omega) (EvP.pos (by omega) ?_))
    simp only [rdQ]
    refine EvP.bind (szPers (qAt l i) x h0 h1 (hs i (by omega))) fun r ⟨h5, h6, h7⟩ => ?_
    rw [wrap64_up (by omega)]
    by_cases h8 : r < 0
    · exact EvP.pos h8 (EvP.now _ ⟨by omega, by omega, fun h => by omega⟩)
    · refine EvP.neg h8 ((ih (i + 1) _ (by omega) (by omega) (by omega)).mono fun r' ⟨h2, h3, h4⟩ => ⟨by omega, h3, fun h9 j h10 h11 => ?_⟩)
      by_cases e : j = i
      · subst e; exact h7 (by omega)
      · exact h4 h9 j (by omega) h11
theorem szPersS (l : List PLn) (a : Int) (h0 : 0 ≤ a) (h1 : a ≤ 1048576) (hl : l.length ≤ maxLen) (hs : ∀ i, i < l.length → okQ (qAt l i)) : EvP (fun k => laws_szPersonS.f k l a) (fun r => r ≤ a ∧ -1 ≤ r ∧ (0 ≤ r → l.length ≤ 1048576 ∧ ∀ j, j < l.length → smQ (qAt l j))) := by
  unfold maxLen at hl
  unfold laws_szPersonS.f
  rw [wrap64_of (by omega) (by omega)]
  by_cases h : a - (l.length : Int) < 0
  · exact EvP.pos h (EvP.now _ ⟨by omega, by omega, fun h => by omega⟩)
  · exact EvP.neg h ((szPersS_l l (by omega) hs l.length 0 _ (by omega) (by omega) (by omega)).mono fun r ⟨h2, h3, h4⟩ => ⟨by omega, h3, fun h5 => ⟨by omega, fun j hj => h4 h5 j (Nat.zero_le _) hj⟩⟩)
/-! ### copies -/
theorem toStrS (l : List ByteArray) (hl : l.length ≤ 1048576) : Ev (fun k => laws_toStringS.f k l) l := by
  have key : ∀ (d i : Nat) (xs : List ByteArray), i + d = l.length → xs.length = l.length → (∀ j, j < i → sAt xs j = sAt l j) → Ev (fun k => laws_toStringS.l0 k l xs (i : Int)) l := by
    intro d
    induction d with
    | zero =>
      intro i xs hi hx h
      refine Ev.step (fun k => laws_toStringS.l0.eq_2 _ _ _ k) (Ev.neg (by omega) ((Ev.now _).eq ?_))
      exact ext_getD ByteArray.empty hx fun j hj => h j (by omega)
    | succ d ih =>
      intro i xs hi hx h
      refine Ev.step (fun k => laws_toStringS.l0.eq_2 _ _ _ k) (Ev.pos (by omega) (Ev.pos (by omega) (Ev.pos (by omega) ?_)))
      rw [wrap64_up (by omega), rdS]
      refine ih (i + 1) _ (by omega) (by simpa using hx) fun j hj => ?_
      unfold sAt
      rw [getD_set _ _ _ _ _ (by simp; omega)]
      by_cases e : j = i
      · subst e; simp
      · rw [if_neg (by simpa using e)]; exact h j (by omega)
  unfold laws_toStringS.f
  refine Ev.pos (by omega) (Ev.pos (by omega) ?_)
  exact key l.length 0 _ (by omega) (by simp) (fun j hj => by omega)
def cv (x : PLn) : PSn := ⟨x.f0, x.f1, x.f2⟩
theorem toPersS (l : List PLn) (hl : l.length ≤ 1048576) (hs : ∀ i, i < l.length → smQ (qAt l i)) : Ev (fun k => laws_toPersonS.f k l) (l.map cv) := by
  have key : ∀ (d i : Nat) (xs : List PSn), i + d = l.length → xs.length = l.length → (∀ j, j < i → pAt xs j = cv (qAt l j)) → Ev (fun k => laws_toPersonS.l0 k l xs (i : Int)) (l.map cv) := by
    intro d
    induction d with
    | zero =>
      intro i xs hi hx h
      refine Ev.step (fun k => laws_toPersonS.l0.eq_2 _ _ _ k) (Ev.neg (by omega) ((Ev.now _).eq ?_))
      refine ext_getD z38 (by simpa using hx) fun j hj => (h j (by omega)).trans ?_
      have hj' : j < l.length := by omega
      simp [qAt, List.getD_eq_getElem?_getD, List.getElem?_eq_getElem hj']
    | succ d ih =>
      intro i xs hi hx h
      refine Ev.step (fun k => laws_toPersonS.l0.eq_2 _ _ _ k) (Ev.pos (by omega) (Ev.pos (by omega) ?_))
      simp only [rdQ, laws_toPerson.f]
      refine Ev.bind (Ev.bind (toStrS _ (hs i (by omega)).2.1) (Ev.now _)) (Ev.pos (by omega) ?_)
      rw [wrap64_up (by omega)]
      refine ih (i + 1) _ (by omega) (by simpa using hx) fun j hj => ?_
      unfold pAt
      rw [getD_set _ _ _ _ _ (by simp; omega)]
      by_cases e : j = i
      · subst e; simp [cv]
      · rw [if_neg (by simpa using e)]; exact h j (by omega)
  unfold laws_toPersonS.f
  refine Ev.pos (by omega) (Ev.pos (by omega) ?_)
  exact key l.length 0 _ (by omega) (by simp) (fun j hj => by omega)
/-! ### likeness -/
theorem eqStrS (l : List ByteArray) (hl : l.length ≤ 1048576) : Ev (fun k => laws_eqStringS.f k l l) true := by
  unfold laws_eqStringS.f
  refine Ev.pos rfl ?_
  have h := Ev.allR (L := fun k i => laws_eqStringS.l0 k l l i) (fun _ => true) l.length true ?_ ?_
  · exact h.eq (by rw [Bool.and_true, allF_iff]; exact fun _ _ _ => rfl)
  · exact Ev.step (fun k => laws_eqStringS.l0.eq_2 _ _ _ k) (Ev.neg (by omega) (Ev.now _))
  · intro i hi r hr
    refine Ev.step (fun k => laws_eqStringS.l0.eq_2 _ _ _ k) (Ev.pos (by omega) (Ev.pos (by omega) (Ev.pos (by omega) (Ev.pos rfl ?_))))
    rw [wrap64_up (by omega)]
    exact hr.eq (by simp)
theorem eqPersS (l : List PSn) (hl : l.length ≤ 1048576) (hs : ∀ i, i < l.length → (pAt l i).f2.length ≤ 1048576) : Ev (fun k => laws_eqPersonS.f k l l) true := by
  unfold laws_eqPersonS.f
  refine Ev.pos rfl ?_
  have h := Ev.allR (L := fun k i => laws_eqPersonS.l0 k l l i) (fun _ => true) l.length true ?_ ?_
  · exact h.eq (by rw [Bool.and_true, allF_iff]; exact fun _ _ _ => rfl)
  · exact Ev.step (fun k => laws_eqPersonS.l0.eq_2 _ _ _ k) (Ev.neg (by omega) (Ev.now _))
  · intro i hi r hr
    refine Ev.step (fun k => laws_eqPersonS.l0.eq_2 _ _ _ k) (Ev.pos (by omega) (Ev.pos (by omega) (Ev.pos (by omega) ?_)))
    simp only [rdP, laws_eqPerson.f]
    refine Ev.bind (Ev.pos trivial (Ev.pos trivial (Ev.bind (eqStrS _ (hs i hi)) (Ev.pos rfl (Ev.now _))))) (Ev.pos rfl ?_)
    rw [wrap64_up (by omega)]
    exact hr.eq (by simp)
end Go.Proofs.Ytfjnjcefcoboaaa.P

/- Words of this session's own: how many lines a valid person has and how deep they are, bounds, and that the program's memo and the reference's rounds come to these. No condition beyond lengths that a machine can hold. -/
namespace Go.Proofs.Ytfjnjcefcoboaaa.P
open Go.RowKit Go.Proofs.YtfjnjcefcoboaaaW.PrintWords Go.Proofs.YtfjnjcefcoboaaaW.PrintLast Go.Proofs.YtfjnjcefcoboaaaW.PrintMore
set_option linter.unusedVariables false
set_option linter.unusedSimpArgs false
/-! ### how many places there are of a kind -/
def cnt (p : Nat → Bool) : Nat → Nat → Nat
  | 0, _ => 0
  | d + 1, i => (if p i = true then 1 else 0) + cnt p d (i + 1)
theorem cnt_le (p : Nat → Bool) : ∀ d i, cnt p d i ≤ d
  | 0, _ => Nat.le_refl _
  | d + 1, i => by have := cnt_le p d (i + 1); rw [cnt]; split <;> omega
theorem cnt_mono {p q : Nat → Bool} : ∀ {d i : Nat}, (∀ j, i ≤ j → j < i + d → p j = true → q j = true) → cnt p d i ≤ cnt q d i
  | 0, _, _ => Nat.le_refl _
  | d + 1, i, h => by
    have := cnt_mono (d := d) (i := i + 1) (p := p) (q := q) fun j h1 h2 => h j (by omega) (by omega)
    rw [cnt, cnt]
    by_cases e : p i = true
    · rw [if_pos e, if_pos (h i (Nat.le_refl _) (by omega) e)]; omega
    · rw [if_neg e]; omega
theorem cnt_lt {p q : Nat → Bool} : ∀ {d i : Nat}, (∀ j, i ≤ j → j < i + d → p j = true → q j = true) → (∃ j, i ≤ j ∧ j < i + d ∧ p j = false ∧ q j = true) → cnt p d i < cnt q d i
  | 0, _, _, ⟨j, h1, h2, _⟩ => by omega
  | d + 1, i, h, ⟨j, h1, h2, h3, h4⟩ => by
    rw [cnt, cnt]
    by_cases e : j = i
    · subst e
      have := cnt_mono (d := d) (i := j + 1) (p := p) (q := q) fun j h1 h2 => h j (by omega) (by omega)
      rw [if_neg (by rw [h3]; decide), if_pos h4]; omega
    · have := cnt_lt (d := d) (i := i + 1) (p := p) (q := q) (fun j h1 h2 => h j (by omega) (by omega)) ⟨j, by omega, by omega, h3, h4⟩
      by_cases e : p i = true
      · rw [if_pos e, if_pos (h i (Nat.le_refl _) (by omega) e)]; omega
      · rw [if_neg e]; omega
/-- How many persons were born before person i. -/
def rank (l : List PSn) (i : Nat) : Nat := cnt (fun j => decide ((pAt l j).f1 < (pAt l i).f1)) l.length 0
theorem rank_lt {l : List PSn} {i j : Nat} (hj : j < l.length) (h : (pAt l j).f1 < (pAt l i).f1) : rank l j < rank l i :=
  cnt_lt (fun q _ _ h1 => by simp only [decide_eq_true_iff] at h1 ⊢; omega) ⟨j, Nat.zero_le _, by omega, by simp, by simpa using h⟩
theorem rank_len {l : List PSn} {i : Nat} (hi : i < l.length) : rank l i < l.length := by
  have h : cnt (fun j => decide ((pAt l j).f1 < (pAt l i).f1)) l.length 0 < cnt (fun _ => true) l.length 0 := cnt_lt (fun _ _ _ _ => rfl) ⟨i, Nat.zero_le _, by omega, by simp, rfl⟩
  have := cnt_le (fun _ => true) l.length 0
  unfold rank
  omega
theorem sumN_le {f : Nat → Int} {B : Int} : ∀ {d i : Nat}, (∀ j, i ≤ j → j < i + d → f j ≤ B) → sumN f d i ≤ d * B
  | 0, i, _ => by simp [sumN]
  | d + 1, i, h => by
    have h1 := h i (Nat.le_refl _) (by omega)
    have := sumN_le (f := f) (B := B) (d := d) (i := i + 1) fun j h1 h2 => h j (by omega) (by omega)
    rw [sumN, Int.natCast_add, Int.add_mul]
    simp only [Int.natCast_one, Int.one_mul]
    omega
theorem sumN_ge {f : Nat → Int} : ∀ {d i : Nat}, (∀ j, i ≤ j → j < i + d → 1 ≤ f j) → (d : Int) ≤ sumN f d i
  | 0, i, _ => by simp [sumN]
  | d + 1, i, h => by
    have h1 := h i (Nat.le_refl _) (by omega)
    have := sumN_ge (f := f) (d := d) (i := i + 1) fun j h1 h2 => h j (by omega) (by omega)
    rw [sumN]
    omega
theorem sumN_snoc (f : Nat → Int) : ∀ d i, sumN f (d + 1) i = sumN f d i + f (i + d)
  | 0, i => by simp [sumN]
  | d + 1, i => by
    rw [sumN, sumN_snoc f d (i + 1), sumN, show i + 1 + d = i + (d + 1) by omega]
    omega
theorem maxN_nn (f : Nat → Int) : ∀ d i, 0 ≤ maxN f d i
  | 0, i => by simp [maxN]
  | d + 1, i => by have := maxN_nn f d (i + 1); rw [maxN]; omega
theorem maxN_le {f : Nat → Int} {B : Int} (hB : 0 ≤ B) : ∀ {d i : Nat}, (∀ j, i ≤ j → j < i + d → f j ≤ B) → maxN f d i ≤ B
  | 0, i, _ => by simpa [maxN] using hB
  | d + 1, i, h => by
    have h1 := h i (Nat.le_refl _) (by omega)
    have := maxN_le (f := f) hB (d := d) (i := i + 1) fun j h1 h2 => h j (by omega) (by omega)
    rw [maxN]
    omega
theorem maxN_get {f : Nat → Int} : ∀ {d i j : Nat}, i ≤ j → j < i + d → f j ≤ maxN f d i
  | 0, i, j, h1, h2 => by omega
  | d + 1, i, j, h1, h2 => by
    rw [maxN]
    by_cases e : j = i
    · subst e; omega
    · have := maxN_get (f := f) (d := d) (i := i + 1) (j := j) (by omega) (by omega); omega
theorem maxN_snoc (f : Nat → Int) : ∀ d i, maxN f (d + 1) i = max (maxN f d i) (max (f (i + d)) 0)
  | 0, i => by simp [maxN]; omega
  | d + 1, i => by
    rw [maxN, maxN_snoc f d (i + 1), maxN, show i + 1 + d = i + (d + 1) by omega]
    omega
/-! ### bounds -/
theorem LL_pos {l : List PSn} (V : Vld l) : ∀ (r i : Nat), i < l.length → rank l i < r → 1 ≤ LL l i
  | 0, i, _, h => by omega
  | r + 1, i, hi, h => by
    rw [LL_eq V hi]
    by_cases h0 : (pAt l i).f2.length = 0
    · rw [if_pos h0]; omega
    · rw [if_neg h0]
      have := sumN_ge (f := fun q => LL l (tAt l i q)) (d := (pAt l i).f2.length) (i := 0) fun q _ hq => by
        obtain ⟨_, h1, h2, _⟩ := V.tAt hi (show q < (pAt l i).f2.length by omega)
        have := rank_lt h1 h2
        exact LL_pos V r _ h1 (by omega)
      omega
theorem LL_le {l : List PSn} (V : Vld l) : ∀ (r i : Nat), i < l.length → rank l i ≤ r → LL l i ≤ ((4 ^ r : Nat) : Int)
  | r, i, hi, h => by
    rw [LL_eq V hi]
    by_cases h0 : (pAt l i).f2.length = 0
    · rw [if_pos h0]
      have : 0 < 4 ^ r := Nat.pow_pos (by decide)
      omega
    · rw [if_neg h0]
      have hf := V.few i hi
      match r with
      | 0 =>
        obtain ⟨_, h1, h2, _⟩ := V.tAt hi (show 0 < (pAt l i).f2.length by omega)
        have := rank_lt h1 h2
        omega
      | r + 1 =>
        have := sumN_le (f := fun q => LL l (tAt l i q)) (B := ((4 ^ r : Nat) : Int)) (d := (pAt l i).f2.length) (i := 0) fun q _ hq => by
          obtain ⟨_, h1, h2, _⟩ := V.tAt hi (show q < (pAt l i).f2.length by omega)
          have := rank_lt h1 h2
          exact LL_le V r _ h1 (by omega)
        have h5 : ((pAt l i).f2.length : Int) * ((4 ^ r : Nat) : Int) ≤ 4 * ((4 ^ r : Nat) : Int) := Int.mul_le_mul_of_nonneg_right (by omega) (Int.natCast_nonneg _)
        have h6 : 4 ^ (r + 1) = 4 * 4 ^ r := by rw [Nat.pow_succ, Nat.mul_comm]
        rw [h6, Int.natCast_mul]
        exact Int.le_trans this h5
theorem LL_bd {l : List PSn} (V : Vld l) {i : Nat} (hi : i < l.length) : 1 ≤ LL l i ∧ LL l i ≤ 281474976710656 := by
  have h1 := LL_pos V _ i hi (Nat.lt_succ_self _)
  have h2 := V.len
  have h3 := rank_len hi
  exact ⟨h1, LL_le V 24 i hi (by omega)⟩
theorem DD_bd {l : List PSn} (V : Vld l) : ∀ (r i : Nat), i < l.length → rank l i ≤ r → 1 ≤ DD l i ∧ DD l i ≤ (r : Int) + 1
  | r, i, hi, h => by
    rw [DD_eq V hi]
    have h0 := maxN_nn (fun q => DD l (tAt l i q)) (pAt l i).f2.length 0
    refine ⟨by omega, ?_⟩
    match r with
    | 0 =>
      by_cases e : (pAt l i).f2.length = 0
      · rw [e]; simp [maxN]
      · obtain ⟨_, h1, h2, _⟩ := V.tAt hi (show 0 < (pAt l i).f2.length by omega)
        have := rank_lt h1 h2
        omega
    | r + 1 =>
      have := maxN_le (f := fun q => DD l (tAt l i q)) (B := (r : Int) + 1) (by omega) (d := (pAt l i).f2.length) (i := 0) fun q _ hq => by
        obtain ⟨_, h1, h2, _⟩ := V.tAt hi (show q < (pAt l i).f2.length by omega)
        have := rank_lt h1 h2
        exact (DD_bd V r _ h1 (by omega)).2
      omega
theorem DD_len {l : List PSn} (V : Vld l) {i : Nat} (hi : i < l.length) : 1 ≤ DD l i ∧ DD l i ≤ (l.length : Int) := by
  have h3 := rank_len hi
  have := DD_bd V (rank l i) i hi (Nat.le_refl _)
  omega
/-! ### the program's memo -/
def nmK (l : List PSn) (j : Nat) : List UInt8 := (pAt l j).f0.data.toList
structure Memo (l : List PSn) (m : PMap) : Prop where
  val : ∀ j, j < l.length → ∀ v, mget m (nmK l j) = some v → v = LL l j
  len : m.length ≤ cnt (fun j => (mget m (nmK l j)).isSome) l.length 0
theorem mget_cons (k : List UInt8) (v : Int) (m : PMap) (k' : List UInt8) : mget ((k, v) :: m) k' = if k = k' then some v else mget m k' := by
  unfold mget
  by_cases h : k = k'
  · subst h; simp
  · simp [h]
theorem Memo.nil (l : List PSn) : Memo l [] := ⟨fun j _ v h => by simp [mget] at h, Nat.zero_le _⟩
theorem nmK_inj {l : List PSn} (V : Vld l) {i j : Nat} (hi : i < l.length) (hj : j < l.length) (h : nmK l i = nmK l j) : i = j := V.inj hi hj (by rw [ByteArray.toList_eq, ByteArray.toList_eq]; exact h)
theorem Memo.put {l : List PSn} (V : Vld l) {m : PMap} (M : Memo l m) {i : Nat} (hi : i < l.length) (h : mget m (nmK l i) = none) : Memo l ((nmK l i, LL l i) :: m) where
  val j hj v hv := by
    rw [mget_cons] at hv
    by_cases e : nmK l i = nmK l j
    · rw [if_pos e] at hv
      have := nmK_inj V hi hj e
      subst this
      injection hv with hv; exact hv.symm
    · rw [if_neg e] at hv; exact M.val j hj v hv
  len := by
    have := M.len
    have h2 := cnt_lt (p := fun j => (mget m (nmK l j)).isSome) (q := fun j => (mget ((nmK l i, LL l i) :: m) (nmK l j)).isSome) (d := l.length) (i := 0) (fun j _ hj h1 => by
      show (mget ((nmK l i, LL l i) :: m) (nmK l j)).isSome = true
      rw [mget_cons]
      split
      · rfl
      · exact h1) ⟨i, Nat.zero_le _, by omega, by simp [h], by
        show (mget ((nmK l i, LL l i) :: m) (nmK l i)).isSome = true
        rw [mget_cons, if_pos rfl]; rfl⟩
    simp only [List.length_cons]
    omega
/-- After a walk at a person: the memo holds right numbers, and none of persons born later. -/
def Post (l : List PSn) (b : Int) (m m' : PMap) : Prop := Memo l m' ∧ ∀ j, j < l.length → b ≤ (pAt l j).f1 → mget m' (nmK l j) = mget m (nmK l j)
theorem Vld.size {l : List PSn} (V : Vld l) {i : Nat} (hi : i < l.length) : (pAt l i).f0.size ≤ 10 := by
  have := V.name i hi
  simp only [nameB, Bool.and_eq_true, decide_eq_true_iff] at this
  exact this.1.2
theorem memo_ev {l : List PSn} (V : Vld l) : ∀ (r i : Nat), i < l.length → rank l i < r → ∀ (nm : ByteArray) (m : PMap), nm.toList = (pAt l i).f0.toList → Memo l m → EvP (fun k => impl_countLines.f k l nm m) (fun p => p.1 = LL l i ∧ Post l ((pAt l i).f1 + 1) m p.2)
  | 0, i, _, h => by omega
  | r + 1, i, hi, h => by
    intro nm m hn M
    have hlen := V.len
    have hk : nm.data.toList = nmK l i := by rw [← ByteArray.toList_eq, hn, ByteArray.toList_eq]; rfl
    have hsz : nm.size = (pAt l i).f0.size := by rw [← data_length, ← data_length, hk]; rfl
    have hs := V.size hi
    refine EvP.step (fun k => impl_countLines.f.eq_2 _ _ _ k) (EvP.pos (by unfold maxLen; omega) ?_)
    rw [hk]
    cases hm : mget m (nmK l i) with
    | some v => exact EvP.now _ ⟨M.val i hi v hm, M, fun _ _ _ => rfl⟩
    | none =>
      refine EvP.ev (personAt_ev l nm (by unfold maxLen; omega)) ?_
      rw [hn, V.fnd hi]
      refine EvP.pos (by omega) (EvP.pos (by omega) ?_)
      rw [rdP]
      by_cases h0 : (pAt l i).f2.length = 0
      · refine EvP.pos h0 (EvP.now _ ⟨?_, M, fun _ _ _ => rfl⟩)
        rw [LL_eq V hi, if_pos h0]
      refine EvP.neg h0 ?_
      have hf := V.few i hi
      have key : ∀ (d q : Nat) (m' : PMap), q + d = (pAt l i).f2.length → Post l (pAt l i).f1 m m' → EvP (fun k => impl_countLines.l k l nm (pAt l i).f2 (q : Int) (sumN (fun q => LL l (tAt l i q)) q 0) m') (fun p => p.1 = LL l i ∧ Post l ((pAt l i).f1 + 1) m p.2) := by
        intro d
        induction d with
        | zero =>
          intro q m' hq ⟨M', hP⟩
          have hn' : mget m' (nmK l i) = none := by rw [hP i hi (Int.le_refl _), hm]
          have hc := cnt_le (fun j => (mget m' (nmK l j)).isSome) l.length 0
          have hl := M'.len
          have e : sumN (fun q => LL l (tAt l i q)) q 0 = LL l i := by rw [LL_eq V hi, if_neg h0, show q = (pAt l i).f2.length by omega]
          refine EvP.step (fun k => impl_countLines.l.eq_2 _ _ _ _ _ _ k) (EvP.neg (by omega) (EvP.pos (by omega) (EvP.now _ ⟨e, ?_, ?_⟩)))
          · rw [e, hk]; exact M'.put V hi hn'
          · intro j hj hb
            rw [hk, mget_cons, if_neg, hP j hj (by omega)]
            intro e'
            have := nmK_inj V hi hj e'
            subst this
            omega
        | succ d ih =>
          intro q m' hq ⟨M', hP⟩
          have hqq : q < (pAt l i).f2.length := by omega
          obtain ⟨_, h1, h2, h3⟩ := V.tAt hi hqq
          have h4 := rank_lt h1 h2
          refine EvP.step (fun k => impl_countLines.l.eq_2 _ _ _ _ _ _ k) (EvP.pos (by omega) (EvP.pos (by omega) ?_))
          rw [rdS]
          refine EvP.bind (memo_ev V r (tAt l i q) h1 (by omega) (sAt (pAt l i).f2 q) m' h3.symm M') fun p ⟨p1, p2, p3⟩ => ?_
          have hb1 := LL_bd V h1
          have hb2 := sumN_le (f := fun q => LL l (tAt l i q)) (B := 281474976710656) (d := q) (i := 0) fun q' _ hq' => (LL_bd V (V.tAt hi (show q' < (pAt l i).f2.length by omega)).2.1).2
          have hb3 := sumN_ge (f := fun q => LL l (tAt l i q)) (d := q) (i := 0) fun q' _ hq' => (LL_bd V (V.tAt hi (show q' < (pAt l i).f2.length by omega)).2.1).1
          have e : sumN (fun q => LL l (tAt l i q)) q 0 + p.1 = sumN (fun q => LL l (tAt l i q)) (q + 1) 0 := by rw [sumN_snoc, p1, Nat.zero_add]
          rw [wrap64_up (by omega), wrap64_of (by omega) (by omega), e]
          exact ih (q + 1) p.2 (by omega) ⟨p2, fun j hj hb => by rw [p3 j hj (by omega), hP j hj hb]⟩
      exact key (pAt l i).f2.length 0 m (by omega) ⟨M, fun _ _ _ => rfl⟩
/-! ### the reference's rounds -/
def dOk (l : List PSn) (xs ys : List Int) : Prop := xs.length = l.length ∧ ys.length = l.length ∧ ∀ j, j < l.length → (rd xs j = 0 ∨ rd xs j = DD l j ∧ rd ys j = LL l j)
/-- set below t. -/
def dTo (l : List PSn) (xs : List Int) (t : Int) (j : Nat) : Prop := DD l j ≤ t → rd xs j ≠ 0
theorem max_ev (a b : Int) : spec_l00Max.f a b = some (max a b) := by
  unfold spec_l00Max.f
  by_cases h : a > b
  · rw [if_pos h]; congr 1; omega
  · rw [if_neg h]; congr 1; omega
theorem rd_set (xs : List Int) (i j : Nat) (v : Int) (h : i < xs.length) : rd (xs.set i v) (j : Int) = if j = i then v else rd xs (j : Int) := getD_set xs i j v 0 h
theorem counts_q {l : List PSn} (V : Vld l) {xs ys : List Int} (h : dOk l xs ys) (t : Int) {i : Nat} (hi : i < l.length) (P : List Int × List Int → Prop)
    (hset : EvP (fun k => spec_l30Counts.l1 k l (xs.set i (DD l i)) (ys.set i (LL l i)) t ((i + 1 : Nat) : Int)) P) (hno : (∃ q, q < (pAt l i).f2.length ∧ rd xs (tAt l i q : Nat) = 0) → EvP (fun k => spec_l30Counts.l1 k l xs ys t ((i + 1 : Nat) : Int)) P) :
    EvP (fun k => spec_l30Counts.l2 k l xs ys t (i : Int) true 1 0 0) P := by
  have hlen := V.len
  have hf := V.few i hi
  have key : ∀ (d q : Nat), q + d = (pAt l i).f2.length → EvP (fun k => spec_l30Counts.l2 k l xs ys t (i : Int) true (1 + maxN (fun q => DD l (tAt l i q)) q 0) (sumN (fun q => LL l (tAt l i q)) q 0) (q : Int)) P := by
    intro d
    induction d with
    | zero =>
      intro q hq
      refine EvP.step (fun k => spec_l30Counts.l2.eq_2 _ _ _ _ _ _ _ _ _ k) (EvP.pos (by omega) (EvP.pos (by omega) ?_))
      rw [rdP]
      refine EvP.neg (by omega) (EvP.step (fun k => spec_l30Counts.j3.eq_2 _ _ _ _ _ _ _ _ _ _ k) (EvP.neg (by decide) (EvP.pos rfl (EvP.pos (by omega) (EvP.pos (by have := h.1; omega) ?_)))))
      simp only [max_ev, Option.bind_some]
      refine EvP.pos (by have := h.2.1; omega) ?_
      rw [wrap64_up (by omega)]
      have e1 : (1 + maxN (fun q => DD l (tAt l i q)) q 0) = DD l i := by rw [DD_eq V hi, show q = (pAt l i).f2.length by omega]
      have e2 : max 1 (sumN (fun q => LL l (tAt l i q)) q 0) = LL l i := by
        have hL := LL_bd V hi
        rw [LL_eq V hi] at hL ⊢
        by_cases h0 : (pAt l i).f2.length = 0
        · rw [if_pos h0, show q = 0 by omega]; rfl
        · rw [if_neg h0] at hL ⊢
          rw [show q = (pAt l i).f2.length by omega]; omega
      rw [e1, e2, Int.toNat_natCast]
      exact hset
    | succ d ih =>
      intro q hq
      have hqq : q < (pAt l i).f2.length := by omega
      obtain ⟨h0, h1, h2, h3⟩ := V.tAt hi hqq
      refine EvP.step (fun k => spec_l30Counts.l2.eq_2 _ _ _ _ _ _ _ _ _ k) (EvP.pos (by omega) (EvP.pos (by omega) ?_))
      rw [rdP]
      refine EvP.pos (by omega) (EvP.step (fun k => spec_l30Counts.j3.eq_2 _ _ _ _ _ _ _ _ _ _ k) (EvP.pos rfl (EvP.pos (by omega) (EvP.pos (by omega) (EvP.pos (by omega) ?_)))))
      rw [rdP, rdS]
      refine EvP.pos (by omega) (EvP.ev (find_ev l _ (by unfold maxLen; omega)) ?_)
      rw [h0]
      refine EvP.pos (by omega) (EvP.pos (by have := h.1; omega) ?_)
      simp only [max_ev, Option.bind_some]
      refine EvP.pos (by have := h.2.1; omega) ?_
      rcases h.2.2 _ h1 with hz | ⟨hd, hL⟩
      · -- not yet
        have hfalse : ∀ (a b c : Int), EvP (fun k => spec_l30Counts.l2 k l xs ys t (i : Int) false a b c) P := by
          intro a b c
          refine EvP.step (fun k => spec_l30Counts.l2.eq_2 _ _ _ _ _ _ _ _ _ k) (EvP.pos (by omega) (EvP.pos (by omega) ?_))
          have hj : ∀ c, EvP (fun k => spec_l30Counts.j3 k l xs ys t (i : Int) false a b c false) P := fun c =>
            EvP.step (fun k => spec_l30Counts.j3.eq_2 _ _ _ _ _ _ _ _ _ _ k) (EvP.neg (by decide) (EvP.neg (by decide) (by
              rw [wrap64_up (by omega)]
              exact hno ⟨q, hqq, hz⟩)))
          by_cases hc : c < (((rd_T38 l (i : Int)).f2).length : Int)
          · exact EvP.pos hc (hj c)
          · exact EvP.neg hc (hj c)
        rw [show decide (rd xs ((tAt l i q : Nat) : Int) > 0) = false by rw [hz]; rfl]
        exact hfalse _ _ _
      · have hD := DD_len V h1
        have hD0 := maxN_nn (fun q => DD l (tAt l i q)) q 0
        have hb1 := LL_bd V h1
        have hb2 := sumN_le (f := fun q => LL l (tAt l i q)) (B := 281474976710656) (d := q) (i := 0) fun q' _ hq' => (LL_bd V (V.tAt hi (show q' < (pAt l i).f2.length by omega)).2.1).2
        have hb3 := sumN_ge (f := fun q => LL l (tAt l i q)) (d := q) (i := 0) fun q' _ hq' => (LL_bd V (V.tAt hi (show q' < (pAt l i).f2.length by omega)).2.1).1
        rw [hd, hL, show decide (DD l (tAt l i q) > 0) = true by simp; omega, wrap64_of (by omega) (by omega), wrap64_of (by omega) (by omega), wrap64_up (by omega)]
        have e1 : max (1 + maxN (fun q => DD l (tAt l i q)) q 0) (DD l (tAt l i q) + 1) = 1 + maxN (fun q => DD l (tAt l i q)) (q + 1) 0 := by
          rw [maxN_snoc, Nat.zero_add]; omega
        have e2 : sumN (fun q => LL l (tAt l i q)) q 0 + LL l (tAt l i q) = sumN (fun q => LL l (tAt l i q)) (q + 1) 0 := by rw [sumN_snoc, Nat.zero_add]
        rw [e1, e2]
        exact ih (q + 1) (by omega)
  have := key (pAt l i).f2.length 0 (by omega)
  simpa [maxN, sumN] using this
theorem counts_j {l : List PSn} (V : Vld l) (t : Nat) (ht : t < l.length) (P : List Int × List Int → Prop)
    (hnext : ∀ xs ys, dOk l xs ys → (∀ j, j < l.length → dTo l xs (t + 1 : Nat) j) → EvP (fun k => spec_l30Counts.l0 k l xs ys ((t + 1 : Nat) : Int)) P) :
    ∀ (d i : Nat) (xs ys : List Int), i + d = l.length → dOk l xs ys → (∀ j, j < l.length → dTo l xs t j) → (∀ j, j < i → dTo l xs (t + 1 : Nat) j) → EvP (fun k => spec_l30Counts.l1 k l xs ys (t : Int) (i : Int)) P := by
  have hlen := V.len
  intro d
  induction d with
  | zero =>
    intro i xs ys hi h h1 h2
    refine EvP.step (fun k => spec_l30Counts.l1.eq_2 _ _ _ _ _ k) (EvP.neg (by omega) ?_)
    rw [wrap64_up (by omega)]
    exact hnext xs ys h fun j hj => h2 j (by omega)
  | succ d ih =>
    intro i xs ys hi h h1 h2
    have hil : i < l.length := by omega
    refine EvP.step (fun k => spec_l30Counts.l1.eq_2 _ _ _ _ _ k) (EvP.pos (by omega) (EvP.pos (by omega) (EvP.pos (by have := h.1; omega) ?_)))
    have hD := DD_len V hil
    by_cases hz : rd xs (i : Int) = 0
    · rw [hz, show ((0 : Int) == 0) = true from rfl]
      refine counts_q V h _ hil P (ih (i + 1) _ _ (by omega) ⟨by simpa using h.1, by simpa using h.2.1, fun j hj => ?_⟩ (fun j hj h3 => ?_) (fun j hj h3 => ?_)) fun ⟨q, hq, hz'⟩ => ih (i + 1) xs ys (by omega) h h1 fun j hj h3 => ?_
      · rw [rd_set _ _ _ _ (by have := h.1; omega), rd_set _ _ _ _ (by have := h.2.1; omega)]
        by_cases e : j = i
        · subst e; rw [if_pos rfl, if_pos rfl]; exact .inr ⟨rfl, rfl⟩
        · rw [if_neg e, if_neg e]; exact h.2.2 j hj
      · rw [rd_set _ _ _ _ (by have := h.1; omega)]
        by_cases e : j = i
        · rw [if_pos e]; omega
        · rw [if_neg e]; exact h1 j hj h3
      · rw [rd_set _ _ _ _ (by have := h.1; omega)]
        by_cases e : j = i
        · rw [if_pos e]; omega
        · rw [if_neg e]; exact h2 j (by omega) h3
      · by_cases e : j = i
        · subst e
          obtain ⟨_, h4, _⟩ := V.tAt hil hq
          have h5 := maxN_get (f := fun q => DD l (tAt l j q)) (d := (pAt l j).f2.length) (i := 0) (j := q) (Nat.zero_le _) (by omega)
          rw [DD_eq V hil] at h3
          exact absurd hz' (h1 _ h4 (by omega))
        · exact h2 j (by omega) h3
    · rw [show (rd xs (i : Int) == 0) = false by simpa using hz]
      have hj : EvP (fun k => spec_l30Counts.j3 k l xs ys (t : Int) (i : Int) false 1 0 0 false) P :=
        EvP.step (fun k => spec_l30Counts.j3.eq_2 _ _ _ _ _ _ _ _ _ _ k) (EvP.neg (by decide) (EvP.neg (by decide) (by
          rw [wrap64_up (by omega)]
          exact ih (i + 1) xs ys (by omega) h h1 fun j hj h3 => by
            by_cases e : j = i
            · subst e; exact hz
            · exact h2 j (by omega) h3)))
      refine EvP.step (fun k => spec_l30Counts.l2.eq_2 _ _ _ _ _ _ _ _ _ k) (EvP.pos (by omega) (EvP.pos (by omega) ?_))
      by_cases hc : (0 : Int) < (((rd_T38 l (i : Int)).f2).length : Int)
      · exact EvP.pos hc hj
      · exact EvP.neg hc hj
theorem counts_ev {l : List PSn} (V : Vld l) : EvP (fun k => spec_l30Counts.f k l) (fun p => p.1.length = l.length ∧ p.2.length = l.length ∧ ∀ j, j < l.length → rd p.1 j = DD l j ∧ rd p.2 j = LL l j) := by
  have hlen := V.len
  have key : ∀ (d t : Nat) (xs ys : List Int), t + d = l.length → dOk l xs ys → (∀ j, j < l.length → dTo l xs t j) → EvP (fun k => spec_l30Counts.l0 k l xs ys (t : Int)) (fun p => p.1.length = l.length ∧ p.2.length = l.length ∧ ∀ j, j < l.length → rd p.1 j = DD l j ∧ rd p.2 j = LL l j) := by
    intro d
    induction d with
    | zero =>
      intro t xs ys ht h h1
      refine EvP.step (fun k => spec_l30Counts.l0.eq_2 _ _ _ _ k) (EvP.neg (by omega) (EvP.now _ ⟨h.1, h.2.1, fun j hj => ?_⟩))
      have hD := DD_len V hj
      rcases h.2.2 j hj with hz | h2
      · exact absurd hz (h1 j hj (by omega))
      · exact h2
    | succ d ih =>
      intro t xs ys ht h h1
      refine EvP.step (fun k => spec_l30Counts.l0.eq_2 _ _ _ _ k) (EvP.pos (by omega) ?_)
      exact counts_j V t (by omega) _ (fun xs ys h2 h3 => ih (t + 1) xs ys (by omega) h2 h3) l.length 0 xs ys (by omega) h h1 (fun j hj => by omega)
  unfold spec_l30Counts.f
  refine EvP.pos (by omega) (EvP.pos (by omega) ?_)
  refine key l.length 0 _ _ (by omega) ⟨by simp, by simp, fun j hj => .inl ?_⟩ (fun j hj h3 => ?_)
  · have : j < l.length := by omega
    simp [rd, List.getD_eq_getElem?_getD, List.getElem?_replicate, this]
  · have hD := DD_len V hj
    omega
/-! ### both sides -/
def linesOf (l : List PSn) (nm : List UInt8) : Int × Int := if codeOf l [] = 0 then (if fnd l nm < 0 then (0, 3) else (LL l (fnd l nm).toNat, 0)) else (0, 1)
theorem specLines_ev (l : List PSn) (nm : ByteArray) (hb : bnd l) : Ev (fun k => spec_CountLines.f k l nm) (linesOf l nm.toList) := by
  unfold spec_CountLines.f
  refine Ev.bind (ask_ev l nm hb) ?_
  by_cases h : validB l = true
  · have hlen := (vld_of h).len
    by_cases h2 : fnd l nm.toList < 0
    · exact (Ev.neg (by simp [ask, h, h2]) (Ev.now _)).eq (by simp [ask, linesOf, codeOf, missing, h, h2])
    · refine Ev.pos (by simp [ask, h, h2]) ?_
      obtain ⟨p, hp, h3, h4, h5⟩ := counts_ev (vld_of h)
      refine Ev.bind hp (Ev.bind (find_ev l nm (by unfold maxLen; omega)) ?_)
      rcases fnd_cases l nm.toList with ⟨h6, _⟩ | ⟨j, h6, h7, _⟩
      · omega
      rw [h6]
      refine (Ev.pos (by omega) (Ev.pos (by omega) (Ev.now _))).eq ?_
      rw [(h5 j h7).2]
      have h8 : ¬ ((j : Int) < 0) := by omega
      simp [linesOf, codeOf, missing, h, h6, h8]
  · exact (Ev.neg (by simp [ask, h]) (Ev.now _)).eq (by simp [ask, linesOf, codeOf, missing, h])
theorem implLines_ev (l : List PSn) (nm : ByteArray) (hb : bnd l) : Ev (fun k => impl_CountLines.f k l nm) (linesOf l nm.toList) := by
  unfold impl_CountLines.f
  refine Ev.bind (code_ev l [nm] hb (by simp)) ?_
  by_cases h : validB l = true
  · by_cases h2 : fnd l nm.toList < 0
    · exact (Ev.neg (by simp [codeOf, missing, h, h2]) (Ev.now _)).eq (by simp [linesOf, codeOf, missing, h, h2])
    · refine Ev.pos (by simp [codeOf, missing, h, h2]) ?_
      rcases fnd_cases l nm.toList with ⟨h6, _⟩ | ⟨j, h6, h7, h8, _⟩
      · omega
      obtain ⟨p, hp, h3, h4⟩ := memo_ev (vld_of h) _ j h7 (Nat.lt_succ_self _) nm [] h8.symm (Memo.nil l)
      refine (Ev.bind hp (Ev.now (p.1, (0 : Int)))).eq ?_
      have h9 : ¬ ((j : Int) < 0) := by omega
      simp [linesOf, codeOf, missing, h, h6, h9, h3]
  · exact (Ev.neg (by simp [codeOf, missing, h]) (Ev.now _)).eq (by simp [linesOf, codeOf, missing, h])
end Go.Proofs.Ytfjnjcefcoboaaa.P

/- The law FnExactCountLines in plain words: what the reference says and what the program says of a name's lines is one and the same, and the reading of persons is left as it was. -/
namespace Go.Proofs.Ytfjnjcefcoboaaa.Pure
open Go.RowKit Go.Proofs.Ytfjnjcefcoboaaa.P Go.Proofs.YtfjnjcefcoboaaaW.PrintWords Go.Proofs.YtfjnjcefcoboaaaW.PrintLast Go.Proofs.YtfjnjcefcoboaaaW.PrintMore
theorem qAt_cv (l : List PLn) (i : Nat) (hi : i < l.length) : pAt (l.map cv) i = cv (qAt l i) := by
  simp [pAt, qAt, List.getD_eq_getElem?_getD, List.getElem?_eq_getElem hi]
theorem pAt_out (l : List PSn) (i : Nat) (hi : ¬ i < l.length) : (pAt l i).f2 = [] := by
  have : l[i]? = none := List.getElem?_eq_none (by omega)
  simp [pAt, List.getD_eq_getElem?_getD, this]
  rfl
theorem okQ_of {l : List PLn} (h : ∀ y ∈ l, ok_T34 y) (i : Nat) (hi : i < l.length) : okQ (qAt l i) := by
  have := h (qAt l i) (by rw [show qAt l i = l[i] by simp [qAt, List.getD_eq_getElem?_getD, List.getElem?_eq_getElem hi]]; exact List.getElem_mem hi)
  refine ⟨this.1, this.2.2.1, fun q hq => this.2.2.2 _ ?_⟩
  rw [show sAt (qAt l i).f2 q = (qAt l i).f2[q] by simp [sAt, List.getD_eq_getElem?_getD, List.getElem?_eq_getElem hq]]
  exact List.getElem_mem hq
theorem FnExactCountLines : laws_FnExactCountLines.Pure := by
  intro l nm hl hn
  refine Ev.rounds ?_
  unfold laws_FnExactCountLines.f
  by_cases h : (nm.size : Int) > 1048576
  · exact Ev.pos h (Ev.now _)
  refine Ev.neg h ?_
  obtain ⟨r, hr, h1, h2, h3⟩ := szPersS l 1048576 (by omega) (by omega) hl.1 (okQ_of hl.2)
  refine Ev.bind hr ?_
  by_cases h4 : r < 0
  · exact Ev.pos h4 (Ev.now _)
  refine Ev.neg h4 ?_
  obtain ⟨h5, h6⟩ := h3 (by omega)
  have hto := toPersS l h5 h6
  have hlen : (l.map cv).length = l.length := by simp
  have hf : ∀ i, (pAt (l.map cv) i).f2.length ≤ 1048576 := fun i => by
    by_cases hi : i < l.length
    · rw [qAt_cv l i hi]; exact (h6 i hi).2.1
    · rw [pAt_out _ i (by omega)]; simp
  have hb : bnd (l.map cv) := ⟨by omega, fun i => by have := hf i; omega⟩
  refine Ev.bind hto (Ev.bind (specLines_ev _ nm hb) (Ev.bind hto (Ev.bind (implLines_ev _ nm hb) (Ev.pos rfl ?_))))
  rw [show ((linesOf (l.map cv) nm.toList).2 != (linesOf (l.map cv) nm.toList).2) = false by simp]
  exact Ev.step (fun k => laws_FnExactCountLines.j0.eq_2 _ _ _ k) (Ev.neg (by decide) (Ev.bind hto (Ev.bind (eqPersS _ (by omega) fun i _ => hf i) (Ev.pos rfl (Ev.now _)))))
end Go.Proofs.Ytfjnjcefcoboaaa.Pure

/- Words of this session's own: what an argument reads as, in the print's words: a value that reads as data is a reading of the print's. No condition. -/
namespace Go.Proofs.YtfjnjcefcoboaaaW.PrintWords
open Go.RowKit Go.Deep
/-- Whatever reads as data of type t is a d, and its parts are in their bounds. -/
def Rd {α : Type} (P : Program) (d : Kd α) (t : TypeId) (ok : α → Prop) : Prop :=
  ∀ (H : Type) (enc : TypeId × Value → H) (w : World) (base : Nat) (sp : Nat → Bool) (held : Bool) (fuel : Nat) (cs : List Value) (x : DataW H × List MemPlace), DataW.trod enc P w base sp held fuel t cs = some x → ∃ a, d.K w a cs ∧ ok a
section
variable {P : Program} {α : Type}
theorem rd_string {t : TypeId} (ht : P.underlying t = some .string) : Rd P Kd.string t (fun s => s.size ≤ maxLen) := by
  intro H enc w base sp held fuel cs x h
  obtain ⟨s, rfl, _, hs⟩ := DataW.trod_string ht h
  exact ⟨s, rfl, hs⟩
theorem rd_int {t : TypeId} {k : IntKind} (ht : P.underlying t = some (.int k)) : Rd P (Kd.int k) t (fun n => (Lit.int k n).wf = true) := by
  intro H enc w base sp held fuel cs x h
  obtain ⟨n, rfl, _, hn⟩ := DataW.trod_int ht h
  exact ⟨n, rfl, hn⟩
theorem rd_slice {t e : TypeId} {d : Kd α} {ok : α → Prop} (ht : P.underlying t = some (.slice e)) (hd : Rd P d e ok) (hs : P.cellsOf e = d.sz) : Rd P (Kd.slice e d) t (fun l => l.length ≤ maxLen ∧ ∀ a ∈ l, ok a) := by
  intro H enc w base sp held fuel cs x h
  rcases open_slice ht h with ⟨rfl, _⟩ | ⟨a, len, cap, m, n, D, Pl, rfl, _, hl, hm, hmm, _, hx⟩
  · exact ⟨[], ⟨none, 0, rfl, Nat.le_refl _, rfl, by simp, fun h => absurd h (Nat.lt_irrefl 0)⟩, by simp, fun a ha => by simp at ha⟩
  · have hle : len ≤ m := by rw [hmm]; split <;> omega
    have hq : ∀ i, i < len → ∃ cs' y, w.cells? base (a.add (i * P.cellsOf e)) (P.cellsOf e) = some cs' ∧ d.K w y cs' ∧ ok y := fun i hi => by
      obtain ⟨cs', h1, h2⟩ := hx i (by omega)
      obtain ⟨y, h3, h4⟩ := hd H enc w base sp held n cs' _ h2
      exact ⟨cs', y, h1, h3, h4⟩
    have hC : ∀ k, k ≤ len → ∃ l : List α, l.length = k ∧ ∀ i y, l[i]? = some y → ∃ cs', w.cells? base (a.add (i * P.cellsOf e)) (P.cellsOf e) = some cs' ∧ d.K w y cs' ∧ ok y := by
      intro k
      induction k with
      | zero => intro _; exact ⟨[], rfl, fun i y h => by simp at h⟩
      | succ k ih =>
        intro hk
        obtain ⟨l, hl, hp⟩ := ih (by omega)
        obtain ⟨cs', y, h1, h2, h3⟩ := hq k (by omega)
        refine ⟨l ++ [y], by simp [hl], fun i z hz => ?_⟩
        rcases Nat.lt_or_ge i l.length with hi | hi
        · rw [List.getElem?_append_left hi] at hz
          exact hp i z hz
        · rw [List.getElem?_append_right hi] at hz
          have hi' : i - l.length = 0 := by
            have := (List.getElem?_eq_some_iff.1 hz).1
            simp at this
            omega
          rw [hi'] at hz
          have : y = z := by simpa using hz
          subst this
          have : i = k := by omega
          subst this
          exact ⟨cs', h1, h2, h3⟩
    obtain ⟨l, hll, hp⟩ := hC len (Nat.le_refl _)
    subst hll
    refine ⟨l, ⟨some a, cap, rfl, hl, rfl, by unfold maxLen at hm; omega, fun _ => ⟨a, rfl, fun j p hj => ?_⟩⟩, by omega, fun y hy => ?_⟩
    · obtain ⟨cs', h1, h2, _⟩ := hp j p hj
      refine ⟨cs', d.K_len h2, h2, fun i u hu => ?_⟩
      obtain ⟨_, hlen, hcell⟩ := World.cells?_some h1
      rw [← add_add, ← hs]
      exact (hcell i (by rw [← hlen]; exact (List.getElem?_eq_some_iff.1 hu).1)).trans hu
    · obtain ⟨i, hi⟩ := List.mem_iff_getElem?.1 hy
      obtain ⟨_, _, _, h3⟩ := hp i y hi
      exact h3
end
end Go.Proofs.YtfjnjcefcoboaaaW.PrintWords
