/- The texts QBase, QCount, QGlue, QPlaces, QRel, PureFnExactRelationOf, YR, one behind the other: what functions of the program, its reference and its laws come to, and what follows. No condition beyond what each theorem names. -/
import Derived.Test.YtfjnjcefcoboaaaZRelationOf0
import Derived.Test.YtfjnjcefcoboaaaZRelationOf1
import Derived.Test.YtfjnjcefcoboaaaZRelationOf2
import Derived.Test.YtfjnjcefcoboaaaZRelationOf3
import Derived.Deep.Slices
import Derived.Deep.Strs
import Derived.Carry
/- Plain words on persons: which the printed functions of the reference and of the program come to: names, places, validity. No condition beyond lengths that a machine can hold. -/
namespace Go.Proofs.Ytfjnjcefcoboaaa.P
open Go.RowKit Go.Proofs.YtfjnjcefcoboaaaW.PrintWords Go.Proofs.YtfjnjcefcoboaaaW.PrintLast Go.Proofs.YtfjnjcefcoboaaaW.PrintMore
set_option linter.unusedVariables false
set_option linter.unusedSimpArgs false
abbrev PSn := S38
def pAt (l : List PSn) (i : Nat) : PSn := l.getD i z38
def sAt (l : List ByteArray) (i : Nat) : ByteArray := l.getD i ByteArray.empty
theorem rdP (l : List PSn) (i : Nat) : rd_T38 l (i : Int) = pAt l i := by simp [rd_T38, pAt]
theorem rdS (l : List ByteArray) (i : Nat) : rdOf ByteArray.empty l (i : Int) = sAt l i := by simp [rdOf, sAt]
/-! ### names -/
def okb (c : Int) : Bool := decide (97 ≤ c ∧ c ≤ 122) || decide (48 ≤ c ∧ c ≤ 57)
def nameB (s : ByteArray) : Bool := decide (1 ≤ s.size ∧ s.size ≤ 10) && (decide (97 ≤ bt s 0 ∧ bt s 0 ≤ 122) && allF (fun i => okb (bt s i)) s.size 0)
theorem toList_nil (s : ByteArray) : s.toList = ([] : List UInt8) ↔ s.size = 0 := by
  rw [ByteArray.toList_eq, ← data_length, List.length_eq_zero_iff]
theorem small_ev (c : Int) : spec_l01Small.f c = some (decide (97 ≤ c ∧ c ≤ 122)) := by
  unfold spec_l01Small.f
  by_cases h : c ≥ 97
  · rw [if_pos h]; congr 1; simp; omega
  · rw [if_neg h]; congr 1; simp; omega
theorem digit_ev (c : Int) : spec_l01Digit.f c = some (decide (48 ≤ c ∧ c ≤ 57)) := by
  unfold spec_l01Digit.f
  by_cases h : c ≥ 48
  · rw [if_pos h]; congr 1; simp; omega
  · rw [if_neg h]; congr 1; simp; omega
theorem specName_ev (s : ByteArray) : Ev (fun k => spec_l01Name.f k s) (nameB s) := by
  have hj : Ev (fun k => spec_l01Name.j0 k s true) false := Ev.step (f := fun k => some false) (fun k => by simp [spec_l01Name.j0]) (Ev.now _)
  unfold spec_l01Name.f
  by_cases h0 : s.size = 0
  · refine Ev.pos ((toList_nil s).2 h0) (hj.eq ?_)
    simp [nameB, h0]
  · refine Ev.neg (fun h => h0 ((toList_nil s).1 h)) ?_
    by_cases h1 : (s.size : Int) > 10
    · refine Ev.pos h1 (hj.eq ?_)
      have : ¬ s.size ≤ 10 := by omega
      simp [nameB, this]
    · refine Ev.neg h1 (Ev.pos (by omega) ?_)
      simp only [small_ev, Option.bind_some]
      have h2 : decide (1 ≤ s.size ∧ s.size ≤ 10) = true := by simp; omega
      unfold nameB
      rw [h2, Bool.true_and]
      by_cases h3 : 97 ≤ bt s 0 ∧ bt s 0 ≤ 122
      · rw [decide_eq_true h3, Bool.true_and]
        refine Ev.step (f := fun k => spec_l01Name.l0 k s 0) (fun k => by simp [spec_l01Name.j0]) ?_
        have := Ev.allR (L := fun k i => spec_l01Name.l0 k s i) (fun i => okb (bt s i)) s.size true ?_ ?_
        · simpa using this
        · exact Ev.step (f := fun k => some true) (fun k => by simp [spec_l01Name.l0]) (Ev.now _)
        · intro i hi r hr
          have e1 : (i : Int) < (s.size : Int) := by omega
          have e2 : (0 : Int) ≤ (i : Int) := by omega
          by_cases c1 : 97 ≤ bt s i ∧ bt s i ≤ 122
          · refine Ev.step (f := fun k => spec_l01Name.l0 k s ((i + 1 : Nat) : Int)) (fun k => ?_) (hr.eq ?_)
            · simp only [spec_l01Name.l0, if_pos e1, if_pos e2, small_ev, Option.bind_some, decide_eq_true c1, if_true]
              rw [wrap64_up (by omega)]
            · simp [okb, c1]
          · by_cases c2 : 48 ≤ bt s i ∧ bt s i ≤ 57
            · refine Ev.step (f := fun k => spec_l01Name.l0 k s ((i + 1 : Nat) : Int)) (fun k => ?_) (hr.eq ?_)
              · simp only [spec_l01Name.l0, if_pos e1, if_pos e2, small_ev, digit_ev, Option.bind_some, decide_eq_false c1, decide_eq_true c2, if_true, Bool.false_eq_true, if_false]
                rw [wrap64_up (by omega)]
              · simp [okb, c2]
            · refine Ev.step (f := fun k => some false) (fun k => ?_) ((Ev.now _).eq ?_)
              · simp only [spec_l01Name.l0, if_pos e1, if_pos e2, small_ev, digit_ev, Option.bind_some, decide_eq_false c1, decide_eq_false c2, Bool.false_eq_true, if_false]
              · simp [okb, c1, c2]
      · rw [decide_eq_false h3, Bool.false_and]
        exact hj
theorem implName_ev (s : ByteArray) : Ev (fun k => impl_IsName.f k s) (nameB s) := by
  unfold impl_IsName.f
  by_cases h0 : (s.size : Int) < 1
  · refine Ev.pos h0 ((Ev.now _).eq ?_)
    have : ¬ 1 ≤ s.size := by omega
    simp [nameB, this]
  refine Ev.neg h0 ?_
  by_cases h1 : (s.size : Int) > 10
  · refine Ev.pos h1 ((Ev.now _).eq ?_)
    have : ¬ s.size ≤ 10 := by omega
    simp [nameB, this]
  refine Ev.neg h1 (Ev.pos (by omega) ?_)
  have h2 : decide (1 ≤ s.size ∧ s.size ≤ 10) = true := by simp; omega
  unfold nameB
  rw [h2, Bool.true_and]
  by_cases h3 : (bt s 0) < 97
  · refine Ev.pos h3 ((Ev.now _).eq ?_)
    have : ¬ 97 ≤ bt s 0 := by omega
    simp [this]
  refine Ev.neg h3 ?_
  by_cases h4 : (bt s 0) > 122
  · refine Ev.pos h4 ((Ev.now _).eq ?_)
    have : ¬ bt s 0 ≤ 122 := by omega
    simp [this]
  refine Ev.neg h4 ?_
  rw [decide_eq_true (show 97 ≤ bt s 0 ∧ bt s 0 ≤ 122 by omega), Bool.true_and]
  refine Ev.bind (a := allF (fun i => okb (bt s i)) s.size 0) ?_ (Ev.now _)
  unfold impl_onlyNameBytes.f
  have := Ev.allR (L := fun k i => impl_onlyNameBytes.l0 k s (s.size : Int) i) (fun i => okb (bt s i)) s.size true ?_ ?_
  · simpa using this
  · exact Ev.step (f := fun k => some true) (fun k => by simp [impl_onlyNameBytes.l0]) (Ev.now _)
  · intro i hi r hr
    have e1 : (i : Int) < (s.size : Int) := by omega
    have e2 : (0 : Int) ≤ (i : Int) := by omega
    have key : okb (bt s i) = true ∧ (∀ k, impl_onlyNameBytes.l0 (k + 1) s (s.size : Int) (i : Int) = impl_onlyNameBytes.l0 k s (s.size : Int) ((i + 1 : Nat) : Int)) ∨ okb (bt s i) = false ∧ (∀ k, impl_onlyNameBytes.l0 (k + 1) s (s.size : Int) (i : Int) = some false) := by
      simp only [impl_onlyNameBytes.l0, if_pos e1, if_pos e2]
      rw [wrap64_up (by omega)]
      unfold okb
      by_cases a1 : bt s i < 97 <;> by_cases a2 : bt s i < 48 <;> by_cases a3 : bt s i > 57 <;> by_cases a4 : bt s i > 122 <;> simp [a1, a2, a3, a4] <;> omega
    rcases key with ⟨k1, k2⟩ | ⟨k1, k2⟩
    · exact Ev.step k2 (hr.eq (by rw [k1, Bool.true_and]))
    · exact Ev.step k2 ((Ev.now _).eq (by rw [k1, Bool.false_and]))
/-! ### the place of a name -/
def fnd (l : List PSn) (nm : List UInt8) : Int := fndF (fun i => decide ((pAt l i).f0.toList = nm)) l.length 0
theorem find_ev (l : List PSn) (nm : ByteArray) (hl : l.length ≤ maxLen) : Ev (fun k => spec_l30Find.f k l nm) (fnd l nm.toList) := by
  unfold maxLen at hl
  unfold spec_l30Find.f
  refine Ev.first (L := fun k i => spec_l30Find.l0 k l nm i) _ l.length ?_ ?_
  · exact Ev.step (f := fun k => some (-1)) (fun k => by simp [spec_l30Find.l0]) (Ev.now _)
  · intro i hi r hr
    have e1 : (i : Int) < (l.length : Int) := by omega
    have e2 : (0 : Int) ≤ (i : Int) := by omega
    by_cases h : (pAt l i).f0.toList = nm.toList
    · refine Ev.step (f := fun k => some (i : Int)) (fun k => ?_) ((Ev.now _).eq (by simp [h]))
      simp only [spec_l30Find.l0, if_pos e1, if_pos e2, rdP, if_pos h]
    · refine Ev.step (f := fun k => spec_l30Find.l0 k l nm ((i + 1 : Nat) : Int)) (fun k => ?_) (hr.eq (by simp [h]))
      simp only [spec_l30Find.l0, if_pos e1, if_pos e2, rdP, if_neg h]
      rw [wrap64_up (by omega)]
theorem personAt_ev (l : List PSn) (nm : ByteArray) (hl : l.length ≤ maxLen) : Ev (fun k => impl_personAt.f k l nm) (fnd l nm.toList) := by
  unfold maxLen at hl
  unfold impl_personAt.f
  refine Ev.bind (a := fnd l nm.toList) ?_ (Ev.now _)
  unfold impl_Person_66_at_impl_personAt_1.f
  refine Ev.first (L := fun k i => impl_Person_66_at_impl_personAt_1.l0 k l (l.length : Int) i nm) _ l.length ?_ ?_
  · exact Ev.step (f := fun k => some (-1)) (fun k => by simp [impl_Person_66_at_impl_personAt_1.l0]) (Ev.now _)
  · intro i hi r hr
    have e1 : (i : Int) < (l.length : Int) := by omega
    have e2 : (0 : Int) ≤ (i : Int) := by omega
    by_cases h : (pAt l i).f0.toList = nm.toList
    · refine Ev.step (f := fun k => some (i : Int)) (fun k => ?_) ((Ev.now _).eq (by simp [h]))
      simp only [impl_Person_66_at_impl_personAt_1.l0, if_pos e1, if_pos e2, rdP, impl_personAt_1.f, h, Option.bind_some, beq_self_eq_true, if_true]
    · refine Ev.step (f := fun k => impl_Person_66_at_impl_personAt_1.l0 k l (l.length : Int) ((i + 1 : Nat) : Int) nm) (fun k => ?_) (hr.eq (by simp [h]))
      have hb : ((pAt l i).f0.toList == nm.toList) = false := by simpa using h
      simp only [impl_Person_66_at_impl_personAt_1.l0, if_pos e1, if_pos e2, rdP, impl_personAt_1.f, hb, Option.bind_some, Bool.false_eq_true, if_false]
      rw [wrap64_up (by omega)]
theorem fnd_cases (l : List PSn) (nm : List UInt8) : (fnd l nm = -1 ∧ ∀ j, j < l.length → (pAt l j).f0.toList ≠ nm) ∨ ∃ j : Nat, fnd l nm = j ∧ j < l.length ∧ (pAt l j).f0.toList = nm ∧ ∀ q, q < j → (pAt l q).f0.toList ≠ nm := by
  rcases fndF_spec (fun i => decide ((pAt l i).f0.toList = nm)) l.length 0 with ⟨h1, h2⟩ | ⟨j, h1, _, h3, h4, h5⟩
  · exact .inl ⟨h1, fun j hj => by simpa using h2 j (Nat.zero_le _) (by omega)⟩
  · exact .inr ⟨j, h1, by omega, by simpa using h4, fun q hq => by simpa using h5 q (Nat.zero_le _) hq⟩
theorem fnd_lt (l : List PSn) (nm : List UInt8) : fnd l nm < (l.length : Int) := by
  rcases fnd_cases l nm with ⟨h, _⟩ | ⟨j, h, h2, _⟩ <;> omega
theorem fnd_ge (l : List PSn) (nm : List UInt8) : -1 ≤ fnd l nm := by
  rcases fnd_cases l nm with ⟨h, _⟩ | ⟨j, h, h2, _⟩ <;> omega
/-! ### validity -/
def tOk (l : List PSn) (i k : Nat) : Bool :=
  decide (0 ≤ fnd l (sAt (pAt l i).f2 k).toList) && (decide ((rd_T38 l (fnd l (sAt (pAt l i).f2 k).toList)).f1 < (pAt l i).f1) && (decide (k = 0) || Op.bytesLess (sAt (pAt l i).f2 (k - 1)).toList (sAt (pAt l i).f2 k).toList))
def pOk (l : List PSn) (i : Nat) : Bool :=
  nameB (pAt l i).f0 && (decide (0 ≤ (pAt l i).f1 ∧ (pAt l i).f1 ≤ 3000) && (decide ((pAt l i).f2.length ≤ 4) && ((decide (i = 0) || Op.bytesLess (pAt l (i - 1)).f0.toList (pAt l i).f0.toList) && allF (tOk l i) (pAt l i).f2.length 0)))
def validB (l : List PSn) : Bool := decide (l.length ≤ 24) && allF (pOk l) l.length 0
theorem in_ev (a b c : Int) : spec_l00In.f a b c = some (decide (b ≤ a ∧ a ≤ c)) := by
  unfold spec_l00In.f
  by_cases h : a ≥ b
  · rw [if_pos h]; congr 1; simp; omega
  · rw [if_neg h]; congr 1; simp; omega
theorem within_ev (a b c : Int) : impl_within.f a b c = some (decide (b ≤ a ∧ a ≤ c)) := by
  unfold impl_within.f
  by_cases h : a ≥ b
  · rw [if_pos h]; congr 1; simp; omega
  · rw [if_neg h]; congr 1; simp; omega
def bnd (l : List PSn) : Prop := l.length ≤ 9000000000000000000 ∧ ∀ i, (pAt l i).f2.length ≤ 9000000000000000000
theorem specOk_l1 (l : List PSn) (hb : bnd l) (i : Nat) (hi : i < l.length) (r : Bool) (hr : Ev (fun k => spec_l30Ok.l0 k l ((i + 1 : Nat) : Int)) r) : Ev (fun k => spec_l30Ok.l1 k l (i : Int) 0) (allF (tOk l i) (pAt l i).f2.length 0 && r) := by
  have hb1 := hb.1
  have hb2 := hb.2 i
  refine Ev.allR (L := fun k q => spec_l30Ok.l1 k l (i : Int) q) (tOk l i) (pAt l i).f2.length r ?_ ?_
  · refine Ev.step (fun k => spec_l30Ok.l1.eq_2 _ _ _ k) (Ev.pos (by omega) (Ev.pos (by omega) (Ev.neg (by rw [rdP]; omega) ?_)))
    rw [wrap64_up (by omega)]
    exact hr
  · intro q hq s hs
    refine Ev.step (fun k => spec_l30Ok.l1.eq_2 _ _ _ k) (Ev.pos (by omega) (Ev.pos (by omega) (Ev.pos (by rw [rdP]; omega) (Ev.pos (by omega) ?_))))
    simp only [rdP, rdS]
    refine Ev.bind (find_ev l _ (by unfold maxLen; omega)) ?_
    unfold tOk
    by_cases h1 : 0 ≤ fnd l (sAt (pAt l i).f2 q).toList
    rotate_left
    · exact Ev.pos (by omega) ((Ev.now _).eq (by simp [h1]))
    refine Ev.neg (by omega) (Ev.pos h1 (Ev.pos (fnd_lt _ _) ?_))
    rw [decide_eq_true h1, Bool.true_and]
    by_cases h2 : (rd_T38 l (fnd l (sAt (pAt l i).f2 q).toList)).f1 < (pAt l i).f1
    rotate_left
    · exact Ev.pos (by omega) ((Ev.now _).eq (by simp [h2]))
    refine Ev.neg (by omega) ?_
    rw [decide_eq_true h2, Bool.true_and]
    by_cases h3 : q = 0
    · subst h3
      refine Ev.neg (by omega) ?_
      rw [wrap64_up (by omega)]
      exact hs.eq (by simp)
    · refine Ev.pos (by omega) ?_
      rw [wrap64_dn (by omega) (by omega)]
      refine Ev.pos (by omega) (Ev.pos (by omega) ?_)
      simp only [rdS]
      by_cases h4 : Op.bytesLess (sAt (pAt l i).f2 (q - 1)).toList (sAt (pAt l i).f2 q).toList = true
      · refine Ev.pos h4 ?_
        rw [wrap64_up (by omega)]
        exact hs.eq (by simp [h4])
      · exact Ev.neg h4 ((Ev.now _).eq (by simp [h3, h4]))
theorem specOk_ev (l : List PSn) (hb : bnd l) : Ev (fun k => spec_l30Ok.f k l) (validB l) := by
  have hb1 := hb.1
  unfold spec_l30Ok.f validB
  rw [Bool.and_comm]
  refine Ev.allR (L := fun k q => spec_l30Ok.l0 k l q) (pOk l) l.length _ ?_ ?_
  · exact Ev.step (fun k => spec_l30Ok.l0.eq_2 _ _ k) (Ev.neg (by omega) ((Ev.now _).eq (by congr 1; simp; omega)))
  · intro i hi r hr
    have hf : ∀ k, spec_l30Ok.j1 (k + 1) l (i : Int) true = some false := fun k => by simp [spec_l30Ok.j1]
    have hf' : Ev (fun k => spec_l30Ok.j1 k l (i : Int) true) false := Ev.step hf (Ev.now _)
    have ht : Ev (fun k => spec_l30Ok.j1 k l (i : Int) false) (allF (tOk l i) (pAt l i).f2.length 0 && r) := Ev.step (f := fun k => spec_l30Ok.l1 k l (i : Int) 0) (fun k => by simp [spec_l30Ok.j1]) (specOk_l1 l hb i hi r hr)
    refine Ev.step (fun k => spec_l30Ok.l0.eq_2 _ _ k) (Ev.pos (by omega) (Ev.pos (by omega) (Ev.bind (specName_ev _) ?_)))
    simp only [rdP, in_ev, Option.bind_some]
    unfold pOk
    by_cases h1 : nameB (pAt l i).f0 = true
    rotate_left
    · exact Ev.neg h1 (hf'.eq (by simp [h1]))
    refine Ev.pos h1 ?_
    by_cases h2 : 0 ≤ (pAt l i).f1 ∧ (pAt l i).f1 ≤ 3000
    rotate_left
    · rw [decide_eq_false h2]
      exact Ev.neg (by decide) (hf'.eq (by simp))
    rw [decide_eq_true h2]
    refine Ev.pos rfl ?_
    by_cases h3 : (pAt l i).f2.length ≤ 4
    rotate_left
    · exact Ev.pos (by omega) (hf'.eq (by simp [h3]))
    refine Ev.neg (by omega) ?_
    rw [h1, decide_eq_true h3]
    by_cases h4 : i = 0
    · subst h4
      exact Ev.neg (by omega) (ht.eq (by simp))
    · refine Ev.pos (by omega) ?_
      rw [wrap64_dn (by omega) (by omega)]
      refine Ev.pos (by omega) (Ev.pos (by omega) ?_)
      simp only [rdP]
      by_cases h5 : Op.bytesLess (pAt l (i - 1)).f0.toList (pAt l i).f0.toList = true
      · rw [h5]
        exact ht.eq (by simp)
      · have h5' : Op.bytesLess (pAt l (i - 1)).f0.toList (pAt l i).f0.toList = false := by simpa using h5
        rw [h5']
        exact hf'.eq (by simp [h4])
theorem implOk_l1 (l : List PSn) (hb : bnd l) (i : Nat) (hi : i < l.length) (r : Bool) (hr : Ev (fun k => impl_ValidPersons.l0 k l l (l.length : Int) ((i + 1 : Nat) : Int)) r) :
    Ev (fun k => impl_ValidPersons.l1 k l l (l.length : Int) (i : Int) (pAt l i).f2 ((pAt l i).f2.length : Int) 0 (pAt l i).f0 (pAt l i).f1 (pAt l i).f2) (allF (tOk l i) (pAt l i).f2.length 0 && r) := by
  have hb1 := hb.1
  have hb2 := hb.2 i
  refine Ev.allR (L := fun k q => impl_ValidPersons.l1 k l l (l.length : Int) (i : Int) (pAt l i).f2 ((pAt l i).f2.length : Int) q (pAt l i).f0 (pAt l i).f1 (pAt l i).f2) (tOk l i) (pAt l i).f2.length r ?_ ?_
  · refine Ev.step (fun k => impl_ValidPersons.l1.eq_2 _ _ _ _ _ _ _ _ _ _ k) (Ev.neg (by omega) ?_)
    rw [wrap64_up (by omega)]
    exact hr
  · intro q hq s hs
    refine Ev.step (fun k => impl_ValidPersons.l1.eq_2 _ _ _ _ _ _ _ _ _ _ k) (Ev.pos (by omega) (Ev.pos (by omega) (Ev.pos (by omega) ?_)))
    simp only [rdP, rdS]
    refine Ev.bind (personAt_ev l _ (by unfold maxLen; omega)) ?_
    unfold tOk
    by_cases h1 : 0 ≤ fnd l (sAt (pAt l i).f2 q).toList
    rotate_left
    · exact Ev.pos (by omega) ((Ev.now _).eq (by simp [h1]))
    refine Ev.neg (by omega) (Ev.pos h1 (Ev.pos (fnd_lt _ _) ?_))
    rw [decide_eq_true h1, Bool.true_and]
    by_cases h2 : (rd_T38 l (fnd l (sAt (pAt l i).f2 q).toList)).f1 < (pAt l i).f1
    rotate_left
    · exact Ev.pos (by omega) ((Ev.now _).eq (by simp [h2]))
    refine Ev.neg (by omega) ?_
    rw [decide_eq_true h2, Bool.true_and]
    by_cases h3 : q = 0
    · subst h3
      refine Ev.neg (by omega) ?_
      rw [wrap64_up (by omega)]
      exact hs.eq (by simp)
    · refine Ev.pos (by omega) ?_
      rw [wrap64_dn (by omega) (by omega)]
      refine Ev.pos (by omega) (Ev.pos (by omega) ?_)
      simp only [rdS]
      by_cases h4 : Op.bytesLess (sAt (pAt l i).f2 (q - 1)).toList (sAt (pAt l i).f2 q).toList = true
      · refine Ev.pos h4 ?_
        rw [wrap64_up (by omega)]
        exact hs.eq (by simp [h4])
      · exact Ev.neg h4 ((Ev.now _).eq (by simp [h3, h4]))
theorem implOk_ev (l : List PSn) (hb : bnd l) : Ev (fun k => impl_ValidPersons.f k l) (validB l) := by
  have hb1 := hb.1
  unfold impl_ValidPersons.f validB
  by_cases h0 : l.length ≤ 24
  rotate_left
  · exact Ev.pos (by omega) ((Ev.now _).eq (by simp [h0]))
  refine Ev.neg (by omega) ?_
  rw [decide_eq_true h0, Bool.true_and, show allF (pOk l) l.length 0 = (allF (pOk l) l.length 0 && true) by simp]
  refine Ev.allR (L := fun k q => impl_ValidPersons.l0 k l l (l.length : Int) q) (pOk l) l.length true ?_ ?_
  · exact Ev.step (fun k => impl_ValidPersons.l0.eq_2 _ _ _ _ k) (Ev.neg (by omega) (Ev.now _))
  · intro i hi r hr
    have hf' : Ev (fun k => impl_ValidPersons.j1 k l l (l.length : Int) (i : Int) true (pAt l i).f0 (pAt l i).f1 (pAt l i).f2) false := Ev.step (f := fun k => some false) (fun k => by simp [impl_ValidPersons.j1]) (Ev.now _)
    have ht : Ev (fun k => impl_ValidPersons.j1 k l l (l.length : Int) (i : Int) false (pAt l i).f0 (pAt l i).f1 (pAt l i).f2) (allF (tOk l i) (pAt l i).f2.length 0 && r) := Ev.step (f := fun k => impl_ValidPersons.l1 k l l (l.length : Int) (i : Int) (pAt l i).f2 ((pAt l i).f2.length : Int) 0 (pAt l i).f0 (pAt l i).f1 (pAt l i).f2) (fun k => by simp [impl_ValidPersons.j1]) (implOk_l1 l hb i hi r hr)
    refine Ev.step (fun k => impl_ValidPersons.l0.eq_2 _ _ _ _ k) (Ev.pos (by omega) (Ev.pos (by omega) (Ev.pos (by omega) ?_)))
    simp only [rdP, within_ev, Option.bind_some]
    refine Ev.bind (implName_ev _) ?_
    unfold pOk
    by_cases h1 : nameB (pAt l i).f0 = true
    rotate_left
    · exact Ev.neg h1 (hf'.eq (by simp [h1]))
    refine Ev.pos h1 ?_
    by_cases h2 : 0 ≤ (pAt l i).f1 ∧ (pAt l i).f1 ≤ 3000
    rotate_left
    · rw [decide_eq_false h2]
      exact Ev.neg (by decide) (hf'.eq (by simp))
    rw [decide_eq_true h2]
    refine Ev.pos rfl ?_
    by_cases h3 : (pAt l i).f2.length ≤ 4
    rotate_left
    · exact Ev.pos (by omega) (hf'.eq (by simp [h3]))
    refine Ev.neg (by omega) ?_
    rw [h1, decide_eq_true h3]
    by_cases h4 : i = 0
    · subst h4
      exact Ev.neg (by omega) (ht.eq (by simp))
    · refine Ev.pos (by omega) ?_
      rw [wrap64_dn (by omega) (by omega)]
      refine Ev.pos (by omega) (Ev.pos (by omega) ?_)
      simp only [rdP]
      by_cases h5 : Op.bytesLess (pAt l (i - 1)).f0.toList (pAt l i).f0.toList = true
      · rw [h5]
        exact ht.eq (by simp)
      · have h5' : Op.bytesLess (pAt l (i - 1)).f0.toList (pAt l i).f0.toList = false := by simpa using h5
        rw [h5']
        exact hf'.eq (by simp [h4])
end Go.Proofs.Ytfjnjcefcoboaaa.P

/- Plain words on persons, further: codes, what valid persons are, the number of lines and the depth of a person. No condition beyond lengths that a machine can hold. -/
namespace Go.Proofs.Ytfjnjcefcoboaaa.P
open Go.RowKit Go.Proofs.YtfjnjcefcoboaaaW.PrintWords Go.Proofs.YtfjnjcefcoboaaaW.PrintLast Go.Proofs.YtfjnjcefcoboaaaW.PrintMore
set_option linter.unusedVariables false
set_option linter.unusedSimpArgs false
def ask (l : List PSn) (nm : List UInt8) : Int := if validB l = true then (if fnd l nm < 0 then 3 else 0) else 1
theorem ask_ev (l : List PSn) (nm : ByteArray) (hb : bnd l) : Ev (fun k => spec_l30Ask.f k l nm) (ask l nm.toList) := by
  have hb1 := hb.1
  unfold spec_l30Ask.f ask
  refine Ev.bind (specOk_ev l hb) ?_
  by_cases h : validB l = true
  · refine (Ev.pos h (Ev.bind (find_ev l nm (by unfold maxLen; omega)) ?_)).eq (if_pos h).symm
    by_cases h2 : fnd l nm.toList < 0
    · exact (Ev.pos h2 (Ev.now _)).eq (if_pos h2).symm
    · exact (Ev.neg h2 (Ev.now _)).eq (if_neg h2).symm
  · exact (Ev.neg h (Ev.now _)).eq (if_neg h).symm
def missing (l : List PSn) (ns : List ByteArray) : Bool := ns.any fun nm => decide (fnd l nm.toList < 0)
def codeOf (l : List PSn) (ns : List ByteArray) : Int := if validB l = true then (if missing l ns = true then 3 else 0) else 1
theorem idx_ev (l : List PSn) (ns : List ByteArray) (hb : bnd l) (hn : ns.length ≤ 1000) : Ev (fun k => slices_IndexFunc_string_string_at_impl_personsCode_1.f k ns l) (fndF (fun i => decide (fnd l (sAt ns i).toList < 0)) ns.length 0) := by
  have hb1 := hb.1
  unfold slices_IndexFunc_string_string_at_impl_personsCode_1.f
  refine Ev.first (L := fun k i => slices_IndexFunc_string_string_at_impl_personsCode_1.l0 k ns (ns.length : Int) i l) _ ns.length ?_ ?_
  · exact Ev.step (fun k => slices_IndexFunc_string_string_at_impl_personsCode_1.l0.eq_2 _ _ _ _ k) (Ev.neg (by omega) (Ev.now _))
  · intro i hi r hr
    refine Ev.step (fun k => slices_IndexFunc_string_string_at_impl_personsCode_1.l0.eq_2 _ _ _ _ k) (Ev.pos (by omega) (Ev.pos (by omega) (Ev.pos (by omega) ?_)))
    simp only [rdS, impl_personsCode_1.f]
    refine Ev.bind (Ev.bind (personAt_ev l _ (by unfold maxLen; omega)) (Ev.now _)) ?_
    by_cases h : fnd l (sAt ns i).toList < 0
    · exact Ev.pos (by simpa using h) ((Ev.now _).eq (by simp [h]))
    · refine Ev.neg (by simpa using h) ?_
      rw [wrap64_up (by omega)]
      exact hr.eq (by simp [h])
theorem any_fndF (ns : List ByteArray) (q : ByteArray → Bool) : decide (fndF (fun i => q (sAt ns i)) ns.length 0 ≥ 0) = ns.any q := by
  rw [Bool.eq_iff_iff, decide_eq_true_iff, List.any_eq_true]
  rcases fndF_spec (fun i => q (sAt ns i)) ns.length 0 with ⟨h1, h2⟩ | ⟨j, h1, _, h3, h4, _⟩
  · rw [h1]
    constructor
    · intro h; omega
    · rintro ⟨x, hx, hq⟩
      obtain ⟨i, hi, rfl⟩ := List.mem_iff_getElem.1 hx
      have := h2 i (Nat.zero_le _) (by omega)
      rw [show sAt ns i = ns[i] by simp [sAt, List.getD_eq_getElem?_getD, List.getElem?_eq_getElem hi], hq] at this
      cases this
  · rw [h1]
    refine ⟨fun _ => ⟨sAt ns j, ?_, h4⟩, fun _ => by omega⟩
    have hj : j < ns.length := by omega
    rw [show sAt ns j = ns[j] by simp [sAt, List.getD_eq_getElem?_getD, List.getElem?_eq_getElem hj]]
    exact List.getElem_mem hj
theorem code_ev (l : List PSn) (ns : List ByteArray) (hb : bnd l) (hn : ns.length ≤ 1000) : Ev (fun k => impl_personsCode.f k l ns) (codeOf l ns) := by
  unfold impl_personsCode.f codeOf
  refine Ev.bind (implOk_ev l hb) ?_
  by_cases h : validB l = true
  · rw [if_pos h]
    refine Ev.pos h ?_
    unfold slices_ContainsFunc_string_string_at_impl_personsCode_1.f
    refine Ev.bind (Ev.bind (idx_ev l ns hb hn) (Ev.now _)) ?_
    rw [any_fndF ns (fun nm => decide (fnd l nm.toList < 0))]
    by_cases h2 : missing l ns = true
    · rw [if_pos h2]; exact Ev.pos h2 (Ev.now _)
    · rw [if_neg h2]; exact Ev.neg h2 (Ev.now _)
  · rw [if_neg h]
    exact Ev.neg h (Ev.now _)
/-! ### what valid persons are -/
structure Vld (l : List PSn) : Prop where
  len : l.length ≤ 24
  born : ∀ i, i < l.length → 0 ≤ (pAt l i).f1 ∧ (pAt l i).f1 ≤ 3000
  few : ∀ i, i < l.length → (pAt l i).f2.length ≤ 4
  name : ∀ i, i < l.length → nameB (pAt l i).f0 = true
  rise : ∀ i, i < l.length → 0 < i → Op.bytesLess (pAt l (i - 1)).f0.toList (pAt l i).f0.toList = true
  teach : ∀ i, i < l.length → ∀ q, q < (pAt l i).f2.length → tOk l i q = true
theorem vld_of {l : List PSn} (h : validB l = true) : Vld l := by
  unfold validB at h
  rw [Bool.and_eq_true, decide_eq_true_iff, allF_iff] at h
  obtain ⟨h1, h2⟩ := h
  have h3 : ∀ i, i < l.length → pOk l i = true := fun i hi => h2 i (Nat.zero_le _) (by omega)
  simp only [pOk, Bool.and_eq_true, decide_eq_true_iff, Bool.or_eq_true, allF_iff] at h3
  exact ⟨h1, fun i hi => (h3 i hi).2.1, fun i hi => (h3 i hi).2.2.1, fun i hi => (h3 i hi).1, fun i hi h0 => by
    rcases (h3 i hi).2.2.2.1 with h | h
    · omega
    · exact h, fun i hi q hq => (h3 i hi).2.2.2.2 q (Nat.zero_le _) (by omega)⟩
/-- The place of teacher q of person i. -/
def tAt (l : List PSn) (i q : Nat) : Nat := (fnd l (sAt (pAt l i).f2 q).toList).toNat
theorem Vld.tAt {l : List PSn} (V : Vld l) {i q : Nat} (hi : i < l.length) (hq : q < (pAt l i).f2.length) : fnd l (sAt (pAt l i).f2 q).toList = (tAt l i q : Int) ∧ tAt l i q < l.length ∧ (pAt l (tAt l i q)).f1 < (pAt l i).f1 ∧ (pAt l (tAt l i q)).f0.toList = (sAt (pAt l i).f2 q).toList := by
  have h := V.teach i hi q hq
  unfold tOk at h
  rw [Bool.and_eq_true, decide_eq_true_iff, Bool.and_eq_true, decide_eq_true_iff] at h
  obtain ⟨h1, h2, _⟩ := h
  rcases fnd_cases l (sAt (pAt l i).f2 q).toList with ⟨h3, _⟩ | ⟨j, h3, h4, h5, _⟩
  · omega
  · have e : P.tAt l i q = j := by unfold P.tAt; omega
    rw [e]
    rw [h3, rdP] at h2
    exact ⟨h3, h4, h2, h5⟩
theorem bytesLess_irrefl : ∀ a : List UInt8, Op.bytesLess a a = false
  | [] => by simp [Op.bytesLess]
  | x :: xs => by simp [Op.bytesLess, bytesLess_irrefl xs]
theorem bytesLess_trans : ∀ {a b c : List UInt8}, Op.bytesLess a b = true → Op.bytesLess b c = true → Op.bytesLess a c = true
  | _, [], _, h, _ => by simp [Op.bytesLess] at h
  | _, _ :: _, [], _, h => by simp [Op.bytesLess] at h
  | [], _ :: _, _ :: _, _, _ => by simp [Op.bytesLess]
  | x :: xs, y :: ys, z :: zs, h1, h2 => by
    simp only [Op.bytesLess, Bool.or_eq_true, decide_eq_true_eq, Bool.and_eq_true, beq_iff_eq] at h1 h2 ⊢
    rcases h1 with h1 | ⟨rfl, h1⟩
    · rcases h2 with h2 | ⟨rfl, h2⟩
      · exact .inl (UInt8.lt_trans h1 h2)
      · exact .inl h1
    · rcases h2 with h2 | ⟨rfl, h2⟩
      · exact .inl h2
      · exact .inr ⟨rfl, bytesLess_trans h1 h2⟩
theorem Vld.lt {l : List PSn} (V : Vld l) {i : Nat} : ∀ {j : Nat}, i < j → j < l.length → Op.bytesLess (pAt l i).f0.toList (pAt l j).f0.toList = true := by
  intro j hij hj
  induction j with
  | zero => omega
  | succ j ih =>
    have h := V.rise (j + 1) hj (by omega)
    by_cases e : i = j
    · subst e; exact h
    · exact bytesLess_trans (ih (by omega) (by omega)) h
theorem Vld.inj {l : List PSn} (V : Vld l) {i j : Nat} (hi : i < l.length) (hj : j < l.length) (h : (pAt l i).f0.toList = (pAt l j).f0.toList) : i = j := by
  rcases Nat.lt_trichotomy i j with h1 | h1 | h1
  · have := V.lt h1 hj; rw [h, bytesLess_irrefl] at this; cases this
  · exact h1
  · have := V.lt h1 hi; rw [h, bytesLess_irrefl] at this; cases this
theorem Vld.fnd {l : List PSn} (V : Vld l) {i : Nat} (hi : i < l.length) : fnd l (pAt l i).f0.toList = i := by
  rcases fnd_cases l (pAt l i).f0.toList with ⟨_, h⟩ | ⟨j, h1, h2, h3, _⟩
  · exact absurd rfl (h i hi)
  · rw [h1, V.inj h2 hi h3]
/-! ### lines and depths, by the year of birth -/
def sumN (f : Nat → Int) : Nat → Nat → Int
  | 0, _ => 0
  | d + 1, i => f i + sumN f d (i + 1)
def maxN (f : Nat → Int) : Nat → Nat → Int
  | 0, _ => 0
  | d + 1, i => max (f i) (maxN f d (i + 1))
/-- The number of lines, of persons that are born before d. -/
def lin (l : List PSn) : Nat → Nat → Int
  | 0, _ => 1
  | d + 1, i => if (pAt l i).f2.length = 0 then 1 else sumN (fun q => lin l d (tAt l i q)) (pAt l i).f2.length 0
def dpt (l : List PSn) : Nat → Nat → Int
  | 0, _ => 1
  | d + 1, i => 1 + maxN (fun q => dpt l d (tAt l i q)) (pAt l i).f2.length 0
theorem sumN_congr {f g : Nat → Int} : ∀ {d i : Nat}, (∀ j, i ≤ j → j < i + d → f j = g j) → sumN f d i = sumN g d i
  | 0, _, _ => rfl
  | d + 1, i, h => by rw [sumN, sumN, h i (Nat.le_refl _) (by omega), sumN_congr fun j h1 h2 => h j (by omega) (by omega)]
theorem maxN_congr {f g : Nat → Int} : ∀ {d i : Nat}, (∀ j, i ≤ j → j < i + d → f j = g j) → maxN f d i = maxN g d i
  | 0, _, _ => rfl
  | d + 1, i, h => by rw [maxN, maxN, h i (Nat.le_refl _) (by omega), maxN_congr fun j h1 h2 => h j (by omega) (by omega)]
theorem lin_stable {l : List PSn} (V : Vld l) : ∀ (d i : Nat), i < l.length → (pAt l i).f1 < (d : Int) → lin l d i = lin l (d + 1) i
  | 0, i, hi, h => by have := V.born i hi; omega
  | d + 1, i, hi, h => by
    rw [lin, lin]
    by_cases h0 : (pAt l i).f2.length = 0
    · rw [if_pos h0, if_pos h0]
    · rw [if_neg h0, if_neg h0]
      refine sumN_congr fun q _ hq => ?_
      obtain ⟨_, h1, h2, _⟩ := V.tAt hi (show q < (pAt l i).f2.length by omega)
      exact lin_stable V d _ h1 (by omega)
theorem dpt_stable {l : List PSn} (V : Vld l) : ∀ (d i : Nat), i < l.length → (pAt l i).f1 < (d : Int) → dpt l d i = dpt l (d + 1) i
  | 0, i, hi, h => by have := V.born i hi; omega
  | d + 1, i, hi, h => by
    rw [dpt, dpt]
    congr 1
    refine maxN_congr fun q _ hq => ?_
    obtain ⟨_, h1, h2, _⟩ := V.tAt hi (show q < (pAt l i).f2.length by omega)
    exact dpt_stable V d _ h1 (by omega)
def LL (l : List PSn) (i : Nat) : Int := lin l 3001 i
def DD (l : List PSn) (i : Nat) : Int := dpt l 3001 i
theorem LL_eq {l : List PSn} (V : Vld l) {i : Nat} (hi : i < l.length) : LL l i = if (pAt l i).f2.length = 0 then 1 else sumN (fun q => LL l (tAt l i q)) (pAt l i).f2.length 0 := by
  have h := V.born i hi
  unfold LL
  rw [lin_stable V 3001 i hi (by omega), lin]
theorem DD_eq {l : List PSn} (V : Vld l) {i : Nat} (hi : i < l.length) : DD l i = 1 + maxN (fun q => DD l (tAt l i q)) (pAt l i).f2.length 0 := by
  have h := V.born i hi
  unfold DD
  rw [dpt_stable V 3001 i hi (by omega), dpt]
end Go.Proofs.Ytfjnjcefcoboaaa.P

/- Words of this session's own: plain functions with rounds that come to some answer of a kind, and what the laws' readings of persons come to (sizes, copies, likeness). No condition beyond lengths that a machine can hold. -/
namespace Go.Proofs.Ytfjnjcefcoboaaa.P
open Go.RowKit Go.Proofs.YtfjnjcefcoboaaaW.PrintWords Go.Proofs.YtfjnjcefcoboaaaW.PrintLast Go.Proofs.YtfjnjcefcoboaaaW.PrintMore
set_option linter.unusedVariables false
set_option linter.unusedSimpArgs false
def EvP {α : Type} (g : Nat → Option α) (P : α → Prop) : Prop := ∃ r, Ev g r ∧ P r
theorem EvP.of {α : Type} {g : Nat → Option α} {P : α → Prop} {r : α} (h : Ev g r) (p : P r) : EvP g P := ⟨r, h, p⟩
theorem EvP.now {α : Type} {P : α → Prop} (r : α) (p : P r) : EvP (fun _ => some r) P := ⟨r, Ev.now r, p⟩
theorem EvP.mono {α : Type} {g : Nat → Option α} {P Q : α → Prop} (h : EvP g P) (m : ∀ r, P r → Q r) : EvP g Q := by
  obtain ⟨r, h, p⟩ := h
  exact ⟨r, h, m r p⟩
theorem EvP.bind {α β : Type} {g : Nat → Option α} {f : Nat → α → Option β} {P : α → Prop} {Q : β → Prop} (h : EvP g P) (k : ∀ a, P a → EvP (fun n => f n a) Q) : EvP (fun n => (g n).bind (f n)) Q := by
  obtain ⟨a, h, p⟩ := h
  obtain ⟨r, k, q⟩ := k a p
  exact ⟨r, Ev.bind h k, q⟩
theorem EvP.ev {α β : Type} {g : Nat → Option α} {f : Nat → α → Option β} {a : α} {Q : β → Prop} (h : Ev g a) (k : EvP (fun n => f n a) Q) : EvP (fun n => (g n).bind (f n)) Q := by
  obtain ⟨r, k, q⟩ := k
  exact ⟨r, Ev.bind h k, q⟩
theorem EvP.step {α : Type} {g f : Nat → Option α} {P : α → Prop} (h : ∀ k, g (k + 1) = f k) (k : EvP f P) : EvP g P := by
  obtain ⟨r, k, q⟩ := k
  exact ⟨r, Ev.step h k, q⟩
theorem EvP.pos {α : Type} {c : Prop} [Decidable c] {a b : Nat → Option α} {P : α → Prop} (h : c) (e : EvP a P) : EvP (fun k => if c then a k else b k) P := by simpa only [if_pos h] using e
theorem EvP.neg {α : Type} {c : Prop} [Decidable c] {a b : Nat → Option α} {P : α → Prop} (h : ¬ c) (e : EvP b P) : EvP (fun k => if c then a k else b k) P := by simpa only [if_neg h] using e
theorem getD_set {α : Type} (xs : List α) (i j : Nat) (v d : α) (h : i < xs.length) : (xs.set i v).getD j d = if j = i then v else xs.getD j d := by
  simp only [List.getD_eq_getElem?_getD, List.getElem?_set]
  by_cases e : j = i
  · subst e; simp [h]
  · rw [if_neg (fun h' => e h'.symm), if_neg e]
theorem ext_getD {α : Type} {xs ys : List α} (d : α) (h : xs.length = ys.length) (he : ∀ j, j < xs.length → xs.getD j d = ys.getD j d) : xs = ys := by
  refine List.ext_getElem h fun j h1 h2 => ?_
  have := he j h1
  simpa [List.getD_eq_getElem?_getD, List.getElem?_eq_getElem h1, List.getElem?_eq_getElem h2] using this
/-! ### sizes -/
theorem szStrS_l (l : List ByteArray) (hl : l.length ≤ 1048576) (hs : ∀ i, i < l.length → (sAt l i).size ≤ maxLen) : ∀ (d i : Nat) (x : Int), i + d = l.length → 0 ≤ x → x ≤ 1048576 → EvP (fun k => laws_szStringS.l0 k l x (i : Int)) (fun r => r ≤ x ∧ -1 ≤ r ∧ (0 ≤ r → ∀ j, i ≤ j → j < l.length → (sAt l j).size ≤ 1048576)) := by
  intro d
  induction d with
  | zero => exact fun i x hi h0 h1 => EvP.step (fun k => laws_szStringS.l0.eq_2 _ _ _ k) (EvP.neg (by omega) (EvP.now _ ⟨Int.le_refl _, by omega, fun _ j h2 h3 => by omega⟩))
  | succ d ih =>
    intro i x hi h0 h1
    have hz := hs i (by omega)
    unfold maxLen at hz
    refine EvP.step (fun k => laws_szStringS.l0.eq_2 _ _ _ k) (EvP.pos (by omega) (EvP.pos (by omega) ?_))
    simp only [rdS]
    rw [wrap64_of (by omega) (by omega), wrap64_up (by omega)]
    by_cases h : x - ((sAt l i).size : Int) < 0
    · exact EvP.pos h (EvP.now _ ⟨by omega, by omega, fun h => by omega⟩)
    · refine EvP.neg h ((ih (i + 1) _ (by omega) (by omega) (by omega)).mono fun r ⟨h2, h3, h4⟩ => ⟨by omega, h3, fun h5 j h6 h7 => ?_⟩)
      by_cases e : j = i
      · subst e; omega
      · exact h4 h5 j (by omega) h7
theorem szStrS (l : List ByteArray) (a : Int) (h0 : 0 ≤ a) (h1 : a ≤ 1048576) (hl : l.length ≤ maxLen) (hs : ∀ i, i < l.length → (sAt l i).size ≤ maxLen) : EvP (fun k => laws_szStringS.f k l a) (fun r => r ≤ a ∧ -1 ≤ r ∧ (0 ≤ r → l.length ≤ 1048576 ∧ ∀ j, j < l.length → (sAt l j).size ≤ 1048576)) := by
  unfold maxLen at hl
  unfold laws_szStringS.f
  rw [wrap64_of (by omega) (by omega)]
  by_cases h : a - (l.length : Int) < 0
  · exact EvP.pos h (EvP.now _ ⟨by omega, by omega, fun h => by omega⟩)
  · exact EvP.neg h ((szStrS_l l (by omega) hs l.length 0 _ (by omega) (by omega) (by omega)).mono fun r ⟨h2, h3, h4⟩ => ⟨by omega, h3, fun h5 => ⟨by omega, fun j hj => h4 h5 j (Nat.zero_le _) hj⟩⟩)
abbrev PLn := S34
def qAt (l : List PLn) (i : Nat) : PLn := l.getD i z34
theorem rdQ (l : List PLn) (i : Nat) : rd_T34 l (i : Int) = qAt l i := by simp [rd_T34, qAt]
/-- What a machine can hold. -/
def okQ (x : PLn) : Prop := x.f0.size ≤ maxLen ∧ x.f2.length ≤ maxLen ∧ ∀ i, i < x.f2.length → (sAt x.f2 i).size ≤ maxLen
/-- What the laws' measure leaves. -/
def smQ (x : PLn) : Prop := x.f0.size ≤ 1048576 ∧ x.f2.length ≤ 1048576 ∧ ∀ i, i < x.f2.length → (sAt x.f2 i).size ≤ 1048576
theorem szPers (x : PLn) (a : Int) (h0 : 0 ≤ a) (h1 : a ≤ 1048576) (hx : okQ x) : EvP (fun k => laws_szPerson.f k x.f0 x.f1 x.f2 a) (fun r => r ≤ a ∧ -1 ≤ r ∧ (0 ≤ r → smQ x)) := by
  obtain ⟨h2, h3, h4⟩ := hx
  unfold maxLen at h2
  unfold laws_szPerson.f
  rw [wrap64_of (by omega) (by omega)]
  by_cases h : a - (x.f0.size : Int) < 0
  · exact EvP.pos h (EvP.now _ ⟨by omega, by omega, fun h => by omega⟩)
  · refine EvP.neg h (EvP.bind (szStrS x.f2 _ (by omega) (by omega) h3 h4) fun r ⟨h5, h6, h7⟩ => ?_)
    by_cases h8 : r < 0
    · exact EvP.pos h8 (EvP.now _ ⟨by omega, by omega, fun h => by omega⟩)
    · exact EvP.neg h8 (EvP.now _ ⟨by omega, by omega, fun h => ⟨by omega, h7 h⟩⟩)
theorem szPersS_l (l : List PLn) (hl : l.length ≤ 1048576) (hs : ∀ i, i < l.length → okQ (qAt l i)) : ∀ (d i : Nat) (x : Int), i + d = l.length → 0 ≤ x → x ≤ 1048576 → EvP (fun k => laws_szPersonS.l0 k l x (i : Int)) (fun r => r ≤ x ∧ -1 ≤ r ∧ (0 ≤ r → ∀ j, i ≤ j → j < l.length → smQ (qAt l j))) := by
  intro d
  induction d with
  | zero => exact fun i x hi h0 h1 => EvP.step (fun k => laws_szPersonS.l0.eq_2 _ _ _ k) (EvP.neg (by omega) (EvP.now _ ⟨Int.le_refl _, by omega, fun _ j h2 h3 => by omega⟩))
  | succ d ih =>
    intro i x hi h0 h1
    refine EvP.step (fun k => laws_szPersonS.l0.eq_2 _ _ _ k) (EvP.pos (by omega) (EvP.pos (by omega) ?_))
    simp only [rdQ]
    refine EvP.bind (szPers (qAt l i) x h0 h1 (hs i (by omega))) fun r ⟨h5, h6, h7⟩ => ?_
    rw [wrap64_up (by omega)]
    by_cases h8 : r < 0
    · exact EvP.pos h8 (EvP.now _ ⟨by omega, by omega, fun h => by omega⟩)
    · refine EvP.neg h8 ((ih (i + 1) _ (by omega) (by omega) (by omega)).mono fun r' ⟨h2, h3, h4⟩ => ⟨by omega, h3, fun h9 j h10 h11 => ?_⟩)
      by_cases e : j = i
      · subst e; exact h7 (by omega)
      · exact h4 h9 j (by omega) h11
theorem szPersS (l : List PLn) (a : Int) (h0 : 0 ≤ a) (h1 : a ≤ 1048576) (hl : l.length ≤ maxLen) (hs : ∀ i, i < l.length → okQ (qAt l i)) : EvP (fun k => laws_szPersonS.f k l a) (fun r => r ≤ a ∧ -1 ≤ r ∧ (0 ≤ r → l.length ≤ 1048576 ∧ ∀ j, j < l.length → smQ (qAt l j))) := by
  unfold maxLen at hl
  unfold laws_szPersonS.f
  rw [wrap64_of (by omega) (by omega)]
  by_cases h : a - (l.length : Int) < 0
  · exact EvP.pos h (EvP.now _ ⟨by omega, by omega, fun h => by omega⟩)
  · exact EvP.neg h ((szPersS_l l (by omega) hs l.length 0 _ (by omega) (by omega) (by omega)).mono fun r ⟨h2, h3, h4⟩ => ⟨by omega, h3, fun h5 => ⟨by omega, fun j hj => h4 h5 j (Nat.zero_le _) hj⟩⟩)
/-! ### copies -/
theorem toStrS (l : List ByteArray) (hl : l.length ≤ 1048576) : Ev (fun k => laws_toStringS.f k l) l := by
  have key : ∀ (d i : Nat) (xs : List ByteArray), i + d = l.length → xs.length = l.length → (∀ j, j < i → sAt xs j = sAt l j) → Ev (fun k => laws_toStringS.l0 k l xs (i : Int)) l := by
    intro d
    induction d with
    | zero =>
      intro i xs hi hx h
      refine Ev.step (fun k => laws_toStringS.l0.eq_2 _ _ _ k) (Ev.neg (by omega) ((Ev.now _).eq ?_))
      exact ext_getD ByteArray.empty hx fun j hj => h j (by omega)
    | succ d ih =>
      intro i xs hi hx h
      refine Ev.step (fun k => laws_toStringS.l0.eq_2 _ _ _ k) (Ev.pos (by omega) (Ev.pos (by omega) (Ev.pos (by omega) ?_)))
      rw [wrap64_up (by omega), rdS]
      refine ih (i + 1) _ (by omega) (by simpa using hx) fun j hj => ?_
      unfold sAt
      rw [getD_set _ _ _ _ _ (by simp; omega)]
      by_cases e : j = i
      · subst e; simp
      · rw [if_neg (by simpa using e)]; exact h j (by omega)
  unfold laws_toStringS.f
  refine Ev.pos (by omega) (Ev.pos (by omega) ?_)
  exact key l.length 0 _ (by omega) (by simp) (fun j hj => by omega)
def cv (x : PLn) : PSn := ⟨x.f0, x.f1, x.f2⟩
theorem toPersS (l : List PLn) (hl : l.length ≤ 1048576) (hs : ∀ i, i < l.length → smQ (qAt l i)) : Ev (fun k => laws_toPersonS.f k l) (l.map cv) := by
  have key : ∀ (d i : Nat) (xs : List PSn), i + d = l.length → xs.length = l.length → (∀ j, j < i → pAt xs j = cv (qAt l j)) → Ev (fun k => laws_toPersonS.l0 k l xs (i : Int)) (l.map cv) := by
    intro d
    induction d with
    | zero =>
      intro i xs hi hx h
      refine Ev.step (fun k => laws_toPersonS.l0.eq_2 _ _ _ k) (Ev.neg (by omega) ((Ev.now _).eq ?_))
      refine ext_getD z38 (by simpa using hx) fun j hj => (h j (by omega)).trans ?_
      have hj' : j < l.length := by omega
      simp [qAt, List.getD_eq_getElem?_getD, List.getElem?_eq_getElem hj']
    | succ d ih =>
      intro i xs hi hx h
      refine Ev.step (fun k => laws_toPersonS.l0.eq_2 _ _ _ k) (Ev.pos (by omega) (Ev.pos (by omega) ?_))
      simp only [rdQ, laws_toPerson.f]
      refine Ev.bind (Ev.bind (toStrS _ (hs i (by omega)).2.1) (Ev.now _)) (Ev.pos (by omega) ?_)
      rw [wrap64_up (by omega)]
      refine ih (i + 1) _ (by omega) (by simpa using hx) fun j hj => ?_
      unfold pAt
      rw [getD_set _ _ _ _ _ (by simp; omega)]
      by_cases e : j = i
      · subst e; simp [cv]
      · rw [if_neg (by simpa using e)]; exact h j (by omega)
  unfold laws_toPersonS.f
  refine Ev.pos (by omega) (Ev.pos (by omega) ?_)
  exact key l.length 0 _ (by omega) (by simp) (fun j hj => by omega)
/-! ### likeness -/
theorem eqStrS (l : List ByteArray) (hl : l.length ≤ 1048576) : Ev (fun k => laws_eqStringS.f k l l) true := by
  unfold laws_eqStringS.f
  refine Ev.pos rfl ?_
  have h := Ev.allR (L := fun k i => laws_eqStringS.l0 k l l i) (fun _ => true) l.length true ?_ ?_
  · exact h.eq (by rw [Bool.and_true, allF_iff]; exact fun _ _ _ => rfl)
  · exact Ev.step (fun k => laws_eqStringS.l0.eq_2 _ _ _ k) (Ev.neg (by omega) (Ev.now _))
  · intro i hi r hr
    refine Ev.step (fun k => laws_eqStringS.l0.eq_2 _ _ _ k) (Ev.pos (by omega) (Ev.pos (by omega) (Ev.pos (by omega) (Ev.pos rfl ?_))))
    rw [wrap64_up (by omega)]
    exact hr.eq (by simp)
theorem eqPersS (l : List PSn) (hl : l.length ≤ 1048576) (hs : ∀ i, i < l.length → (pAt l i).f2.length ≤ 1048576) : Ev (fun k => laws_eqPersonS.f k l l) true := by
  unfold laws_eqPersonS.f
  refine Ev.pos rfl ?_
  have h := Ev.allR (L := fun k i => laws_eqPersonS.l0 k l l i) (fun _ => true) l.length true ?_ ?_
  · exact h.eq (by rw [Bool.and_true, allF_iff]; exact fun _ _ _ => rfl)
  · exact Ev.step (fun k => laws_eqPersonS.l0.eq_2 _ _ _ k) (Ev.neg (by omega) (Ev.now _))
  · intro i hi r hr
    refine Ev.step (fun k => laws_eqPersonS.l0.eq_2 _ _ _ k) (Ev.pos (by omega) (Ev.pos (by omega) (Ev.pos (by omega) ?_)))
    simp only [rdP, laws_eqPerson.f]
    refine Ev.bind (Ev.pos trivial (Ev.pos trivial (Ev.bind (eqStrS _ (hs i hi)) (Ev.pos rfl (Ev.now _))))) (Ev.pos rfl ?_)
    rw [wrap64_up (by omega)]
    exact hr.eq (by simp)
end Go.Proofs.Ytfjnjcefcoboaaa.P

/- Words of this session's own: how many lines a valid person has and how deep they are, bounds, and names as keys. No condition beyond lengths that a machine can hold. -/
namespace Go.Proofs.Ytfjnjcefcoboaaa.P
open Go.RowKit Go.Proofs.YtfjnjcefcoboaaaW.PrintWords Go.Proofs.YtfjnjcefcoboaaaW.PrintLast Go.Proofs.YtfjnjcefcoboaaaW.PrintMore
set_option linter.unusedVariables false
set_option linter.unusedSimpArgs false
/-! ### how many places there are of a kind -/
def cnt (p : Nat → Bool) : Nat → Nat → Nat
  | 0, _ => 0
  | d + 1, i => (if p i = true then 1 else 0) + cnt p d (i + 1)
theorem cnt_le (p : Nat → Bool) : ∀ d i, cnt p d i ≤ d
  | 0, _ => Nat.le_refl _
  | d + 1, i => by have := cnt_le p d (i + 1); rw [cnt]; split <;> omega
theorem cnt_mono {p q : Nat → Bool} : ∀ {d i : Nat}, (∀ j, i ≤ j → j < i + d → p j = true → q j = true) → cnt p d i ≤ cnt q d i
  | 0, _, _ => Nat.le_refl _
  | d + 1, i, h => by
    have := cnt_mono (d := d) (i := i + 1) (p := p) (q := q) fun j h1 h2 => h j (by omega) (by omega)
    rw [cnt, cnt]
    by_cases e : p i = true
    · rw [if_pos e, if_pos (h i (Nat.le_refl _) (by omega) e)]; omega
    · rw [if_neg e]; omega
theorem cnt_lt {p q : Nat → Bool} : ∀ {d i : Nat}, (∀ j, i ≤ j → j < i + d → p j = true → q j = true) → (∃ j, i ≤ j ∧ j < i + d ∧ p j = false ∧ q j = true) → cnt p d i < cnt q d i
  | 0, _, _, ⟨j, h1, h2, _⟩ => by omega
  | d + 1, i, h, ⟨j, h1, h2, h3, h4⟩ => by
    rw [cnt, cnt]
    by_cases e : j = i
    · subst e
      have := cnt_mono (d := d) (i := j + 1) (p := p) (q := q) fun j h1 h2 => h j (by omega) (by omega)
      rw [if_neg (by rw [h3]; decide), if_pos h4]; omega
    · have := cnt_lt (d := d) (i := i + 1) (p := p) (q := q) (fun j h1 h2 => h j (by omega) (by omega)) ⟨j, by omega, by omega, h3, h4⟩
      by_cases e : p i = true
      · rw [if_pos e, if_pos (h i (Nat.le_refl _) (by omega) e)]; omega
      · rw [if_neg e]; omega
/-- How many persons were born before person i. -/
def rank (l : List PSn) (i : Nat) : Nat := cnt (fun j => decide ((pAt l j).f1 < (pAt l i).f1)) l.length 0
theorem rank_lt {l : List PSn} {i j : Nat} (hj : j < l.length) (h : (pAt l j).f1 < (pAt l i).f1) : rank l j < rank l i :=
  cnt_lt (fun q _ _ h1 => by simp only [decide_eq_true_iff] at h1 ⊢; omega) ⟨j, Nat.zero_le _, by omega, by simp, by simpa using h⟩
theorem rank_len {l : List PSn} {i : Nat} (hi : i < l.length) : rank l i < l.length := by
  have h : cnt (fun j => decide ((pAt l j).f1 < (pAt l i).f1)) l.length 0 < cnt (fun _ => true) l.length 0 := cnt_lt (fun _ _ _ _ => rfl) ⟨i, Nat.zero_le _, by omega, by simp, rfl⟩
  have := cnt_le (fun _ => true) l.length 0
  unfold rank
  omega
theorem sumN_le {f : Nat → Int} {B : Int} : ∀ {d i : Nat}, (∀ j, i ≤ j → j < i + d → f j ≤ B) → sumN f d i ≤ d * B
  | 0, i, _ => by simp [sumN]
  | d + 1, i, h => by
    have h1 := h i (Nat.le_refl _) (by omega)
    have := sumN_le (f := f) (B := B) (d := d) (i := i + 1) fun j h1 h2 => h j (by omega) (by omega)
    rw [sumN, Int.natCast_add, Int.add_mul]
    simp only [Int.natCast_one, Int.one_mul]
    omega
theorem sumN_ge {f : Nat → Int} : ∀ {d i : Nat}, (∀ j, i ≤ j → j < i + d → 1 ≤ f j) → (d : Int) ≤ sumN f d i
  | 0, i, _ => by simp [sumN]
  | d + 1, i, h => by
    have h1 := h i (Nat.le_refl _) (by omega)
    have := sumN_ge (f := f) (d := d) (i := i + 1) fun j h1 h2 => h j (by omega) (by omega)
    rw [sumN]
    omega
theorem sumN_snoc (f : Nat → Int) : ∀ d i, sumN f (d + 1) i = sumN f d i + f (i + d)
  | 0, i => by simp [sumN]
  | d + 1, i => by
    rw [sumN, sumN_snoc f d (i + 1), sumN, show i + 1 + d = i + (d + 1) by omega]
    omega
theorem maxN_nn (f : Nat → Int) : ∀ d i, 0 ≤ maxN f d i
  | 0, i => by simp [maxN]
  | d + 1, i => by have := maxN_nn f d (i + 1); rw [maxN]; omega
theorem maxN_le {f : Nat → Int} {B : Int} (hB : 0 ≤ B) : ∀ {d i : Nat}, (∀ j, i ≤ j → j < i + d → f j ≤ B) → maxN f d i ≤ B
  | 0, i, _ => by simpa [maxN] using hB
  | d + 1, i, h => by
    have h1 := h i (Nat.le_refl _) (by omega)
    have := maxN_le (f := f) hB (d := d) (i := i + 1) fun j h1 h2 => h j (by omega) (by omega)
    rw [maxN]
    omega
theorem maxN_get {f : Nat → Int} : ∀ {d i j : Nat}, i ≤ j → j < i + d → f j ≤ maxN f d i
  | 0, i, j, h1, h2 => by omega
  | d + 1, i, j, h1, h2 => by
    rw [maxN]
    by_cases e : j = i
    · subst e; omega
    · have := maxN_get (f := f) (d := d) (i := i + 1) (j := j) (by omega) (by omega); omega
theorem maxN_snoc (f : Nat → Int) : ∀ d i, maxN f (d + 1) i = max (maxN f d i) (max (f (i + d)) 0)
  | 0, i => by simp [maxN]; omega
  | d + 1, i => by
    rw [maxN, maxN_snoc f d (i + 1), maxN, show i + 1 + d = i + (d + 1) by omega]
    omega
/-! ### bounds -/
theorem LL_pos {l : List PSn} (V : Vld l) : ∀ (r i : Nat), i < l.length → rank l i < r → 1 ≤ LL l i
  | 0, i, _, h => by omega
  | r + 1, i, hi, h => by
    rw [LL_eq V hi]
    by_cases h0 : (pAt l i).f2.length = 0
    · rw [if_pos h0]; omega
    · rw [if_neg h0]
      have := sumN_ge (f := fun q => LL l (tAt l i q)) (d := (pAt l i).f2.length) (i := 0) fun q _ hq => by
        obtain ⟨_, h1, h2, _⟩ := V.tAt hi (show q < (pAt l i).f2.length by omega)
        have := rank_lt h1 h2
        exact LL_pos V r _ h1 (by omega)
      omega
theorem LL_le {l : List PSn} (V : Vld l) : ∀ (r i : Nat), i < l.length → rank l i ≤ r → LL l i ≤ ((4 ^ r : Nat) : Int)
  | r, i, hi, h => by
    rw [LL_eq V hi]
    by_cases h0 : (pAt l i).f2.length = 0
    · rw [if_pos h0]
      have : 0 < 4 ^ r := Nat.pow_pos (by decide)
      omega
    · rw [if_neg h0]
      have hf := V.few i hi
      match r with
      | 0 =>
        obtain ⟨_, h1, h2, _⟩ := V.tAt hi (show 0 < (pAt l i).f2.length by omega)
        have := rank_lt h1 h2
        omega
      | r + 1 =>
        have := sumN_le (f := fun q => LL l (tAt l i q)) (B := ((4 ^ r : Nat) : Int)) (d := (pAt l i).f2.length) (i := 0) fun q _ hq => by
          obtain ⟨_, h1, h2, _⟩ := V.tAt hi (show q < (pAt l i).f2.length by omega)
          have := rank_lt h1 h2
          exact LL_le V r _ h1 (by omega)
        have h5 : ((pAt l i).f2.length : Int) * ((4 ^ r : Nat) : Int) ≤ 4 * ((4 ^ r : Nat) : Int) := Int.mul_le_mul_of_nonneg_right (by omega) (Int.natCast_nonneg _)
        have h6 : 4 ^ (r + 1) = 4 * 4 ^ r := by rw [Nat.pow_succ, Nat.mul_comm]
        rw [h6, Int.natCast_mul]
        exact Int.le_trans this h5
theorem LL_bd {l : List PSn} (V : Vld l) {i : Nat} (hi : i < l.length) : 1 ≤ LL l i ∧ LL l i ≤ 281474976710656 := by
  have h1 := LL_pos V _ i hi (Nat.lt_succ_self _)
  have h2 := V.len
  have h3 := rank_len hi
  exact ⟨h1, LL_le V 24 i hi (by omega)⟩
theorem DD_bd {l : List PSn} (V : Vld l) : ∀ (r i : Nat), i < l.length → rank l i ≤ r → 1 ≤ DD l i ∧ DD l i ≤ (r : Int) + 1
  | r, i, hi, h => by
    rw [DD_eq V hi]
    have h0 := maxN_nn (fun q => DD l (tAt l i q)) (pAt l i).f2.length 0
    refine ⟨by omega, ?_⟩
    match r with
    | 0 =>
      by_cases e : (pAt l i).f2.length = 0
      · rw [e]; simp [maxN]
      · obtain ⟨_, h1, h2, _⟩ := V.tAt hi (show 0 < (pAt l i).f2.length by omega)
        have := rank_lt h1 h2
        omega
    | r + 1 =>
      have := maxN_le (f := fun q => DD l (tAt l i q)) (B := (r : Int) + 1) (by omega) (d := (pAt l i).f2.length) (i := 0) fun q _ hq => by
        obtain ⟨_, h1, h2, _⟩ := V.tAt hi (show q < (pAt l i).f2.length by omega)
        have := rank_lt h1 h2
        exact (DD_bd V r _ h1 (by omega)).2
      omega
theorem DD_len {l : List PSn} (V : Vld l) {i : Nat} (hi : i < l.length) : 1 ≤ DD l i ∧ DD l i ≤ (l.length : Int) := by
  have h3 := rank_len hi
  have := DD_bd V (rank l i) i hi (Nat.le_refl _)
  omega
/-! ### names as keys -/
def nmK (l : List PSn) (j : Nat) : List UInt8 := (pAt l j).f0.data.toList
theorem mget_cons (k : List UInt8) (v : Int) (m : PMap) (k' : List UInt8) : mget ((k, v) :: m) k' = if k = k' then some v else mget m k' := by
  unfold mget
  by_cases h : k = k'
  · subst h; simp
  · simp [h]
theorem nmK_inj {l : List PSn} (V : Vld l) {i j : Nat} (hi : i < l.length) (hj : j < l.length) (h : nmK l i = nmK l j) : i = j := V.inj hi hj (by rw [ByteArray.toList_eq, ByteArray.toList_eq]; exact h)
theorem Vld.size {l : List PSn} (V : Vld l) {i : Nat} (hi : i < l.length) : (pAt l i).f0.size ≤ 10 := by
  have := V.name i hi
  simp only [nameB, Bool.and_eq_true, decide_eq_true_iff] at this
  exact this.1.2
theorem rd_set (xs : List Int) (i j : Nat) (v : Int) (h : i < xs.length) : rd (xs.set i v) (j : Int) = if j = i then v else rd xs (j : Int) := getD_set xs i j v 0 h
end Go.Proofs.Ytfjnjcefcoboaaa.P

/- Words of this session's own: how near two valid persons are, by layers, and that the reference's rounds and the program's queue come to it. No condition beyond lengths that a machine can hold. -/
namespace Go.Proofs.Ytfjnjcefcoboaaa.P
open Go.RowKit Go.Proofs.YtfjnjcefcoboaaaW.PrintWords Go.Proofs.YtfjnjcefcoboaaaW.PrintLast Go.Proofs.YtfjnjcefcoboaaaW.PrintMore
set_option linter.unusedVariables false
set_option linter.unusedSimpArgs false
def Tch (l : List PSn) (i j : Nat) : Prop := ∃ q, q < (pAt l i).f2.length ∧ tAt l i q = j
def Adj (l : List PSn) (i j : Nat) : Prop := Tch l i j ∨ Tch l j i
/-- Within d steps. -/
def Lv (l : List PSn) (a : Nat) : Nat → Nat → Prop
  | 0, j => j = a
  | d + 1, j => Lv l a d j ∨ ∃ i, i < l.length ∧ Lv l a d i ∧ Adj l i j
def IsD (l : List PSn) (a j d : Nat) : Prop := Lv l a d j ∧ ∀ d', d' < d → ¬ Lv l a d' j
theorem Lv.mono {l : List PSn} {a j d : Nat} (h : Lv l a d j) : ∀ {d' : Nat}, d ≤ d' → Lv l a d' j := by
  intro d' hd
  induction d' with
  | zero => have : d = 0 := by omega
            subst this; exact h
  | succ e ih =>
    by_cases e1 : d = e + 1
    · subst e1; exact h
    · exact .inl (ih (by omega))
theorem Lv.dist {l : List PSn} {a j : Nat} : ∀ {d : Nat}, Lv l a d j → ∃ d', d' ≤ d ∧ IsD l a j d'
  | 0, h => ⟨0, Nat.le_refl _, h, fun d' h' => by omega⟩
  | d + 1, h => by
    by_cases h1 : Lv l a d j
    · obtain ⟨d', h2, h3⟩ := Lv.dist h1
      exact ⟨d', by omega, h3⟩
    · exact ⟨d + 1, Nat.le_refl _, h, fun d' h' h2 => h1 (h2.mono (by omega))⟩
theorem IsD.uniq {l : List PSn} {a j d d' : Nat} (h : IsD l a j d) (h' : IsD l a j d') : d = d' := by
  rcases Nat.lt_trichotomy d d' with h1 | h1 | h1
  · exact absurd h.1 (h'.2 d h1)
  · exact h1
  · exact absurd h'.1 (h.2 d' h1)
theorem IsD.le {l : List PSn} {a j d e : Nat} (h : IsD l a j d) (h' : Lv l a e j) : d ≤ e := by
  rcases Nat.lt_or_ge e d with h1 | h1
  · exact absurd h' (h.2 e h1)
  · exact h1
theorem Lv.sat {l : List PSn} {a d : Nat} (h : ∀ j, j < l.length → Lv l a (d + 1) j → Lv l a d j) : ∀ (e j : Nat), j < l.length → Lv l a e j → Lv l a d j
  | 0, j, _, h1 => Lv.mono (d := 0) h1 (Nat.zero_le _)
  | e + 1, j, hj, h1 => by
    rcases h1 with h1 | ⟨i, hi, h1, h2⟩
    · exact Lv.sat h e j hj h1
    · exact h j hj (.inr ⟨i, hi, Lv.sat h e i hi h1, h2⟩)
open Classical in
theorem Lv.full {l : List PSn} {a : Nat} (ha : a < l.length) (e j : Nat) (hj : j < l.length) (h : Lv l a e j) : Lv l a l.length j := by
  have key : ∀ d, (∃ d', d' < d ∧ ∀ j, j < l.length → Lv l a (d' + 1) j → Lv l a d' j) ∨ d + 1 ≤ cnt (fun j => decide (Lv l a d j)) l.length 0 := by
    intro d
    induction d with
    | zero =>
      right
      have := cnt_lt (p := fun _ => false) (q := fun j => decide (Lv l a 0 j)) (d := l.length) (i := 0) (fun _ _ _ h => by cases h) ⟨a, Nat.zero_le _, by omega, rfl, by simp [Lv]⟩
      omega
    | succ d ih =>
      rcases ih with ⟨d', h1, h2⟩ | h1
      · exact .inl ⟨d', by omega, h2⟩
      · by_cases hs : ∀ j, j < l.length → Lv l a (d + 1) j → Lv l a d j
        · exact .inl ⟨d, by omega, hs⟩
        · right
          obtain ⟨j, hj⟩ := Classical.not_forall.1 hs
          obtain ⟨hj1, hj2⟩ := Classical.not_imp.1 hj
          obtain ⟨hj2, hj3⟩ := Classical.not_imp.1 hj2
          have := cnt_lt (p := fun j => decide (Lv l a d j)) (q := fun j => decide (Lv l a (d + 1) j)) (d := l.length) (i := 0) (fun j _ _ h => by
            simp only [decide_eq_true_eq] at h ⊢
            exact .inl h) ⟨j, Nat.zero_le _, by omega, by simpa using hj3, by simpa using hj2⟩
          omega
  rcases key l.length with ⟨d', h1, h2⟩ | h1
  · exact (Lv.sat h2 e j hj h).mono (by omega)
  · have := cnt_le (fun j => decide (Lv l a l.length j)) l.length 0
    omega
/-- The answer. -/
def Rel (l : List PSn) (a b : Nat) (r : Int × Int) : Prop := (∃ d : Nat, IsD l a b d ∧ r = ((d : Int), 0)) ∨ ((∀ d, ¬ Lv l a d b) ∧ r = (0, 6))
theorem Rel.uniq {l : List PSn} {a b : Nat} {r r' : Int × Int} (h : Rel l a b r) (h' : Rel l a b r') : r = r' := by
  rcases h with ⟨d, h1, h2⟩ | ⟨h1, h2⟩ <;> rcases h' with ⟨d', h3, h4⟩ | ⟨h3, h4⟩
  · rw [h2, h4, h1.uniq h3]
  · exact absurd h1.1 (h3 d)
  · exact absurd h3.1 (h1 d')
  · rw [h2, h4]
/-! ### the reference -/
/-- In the round s: what is known of each person. -/
def Mid (l : List PSn) (a : Nat) (s : Nat) (x : List Int) : Prop := x.length = l.length ∧ ∀ j, j < l.length → (rd x (j : Int) = -1 ∧ ¬ Lv l a s j) ∨ (∃ d : Nat, d ≤ s ∧ IsD l a j d ∧ rd x (j : Int) = d) ∨ (IsD l a j (s + 1) ∧ rd x (j : Int) = (s : Int) + 1)
theorem Mid.at {l : List PSn} {a s : Nat} {x : List Int} (h : Mid l a s x) {j : Nat} (hj : j < l.length) : rd x (j : Int) = (s : Int) ↔ IsD l a j s := by
  rcases h.2 j hj with ⟨h1, h2⟩ | ⟨d, h1, h2, h3⟩ | ⟨h1, h2⟩
  · exact ⟨fun e => by omega, fun e => absurd e.1 h2⟩
  · exact ⟨fun e => by have : d = s := by omega
                       subst this; exact h2, fun e => by rw [h3, h2.uniq e]⟩
  · exact ⟨fun e => by omega, fun e => by have := h1.uniq e; omega⟩
theorem Mid.neg {l : List PSn} {a s : Nat} {x : List Int} (h : Mid l a s x) {j : Nat} (hj : j < l.length) (h0 : rd x (j : Int) < 0) : ¬ Lv l a s j := by
  rcases h.2 j hj with ⟨h1, h2⟩ | ⟨d, h1, h2, h3⟩ | ⟨h1, h2⟩
  · exact h2
  · omega
  · omega
theorem Mid.set {l : List PSn} {a s : Nat} {x : List Int} (h : Mid l a s x) {i j : Nat} (hi : i < l.length) (hj : j < l.length) (hd : IsD l a i s) (hA : Adj l i j) (h0 : rd x (j : Int) < 0) : Mid l a s (x.set j ((s : Int) + 1)) := by
  refine ⟨by simpa using h.1, fun q hq => ?_⟩
  rw [rd_set _ _ _ _ (by have := h.1; omega)]
  by_cases e : q = j
  · subst e
    rw [if_pos rfl]
    refine .inr (.inr ⟨⟨.inr ⟨i, hi, hd.1, hA⟩, fun d' h' h1 => h.neg hq h0 (h1.mono (by omega))⟩, rfl⟩)
  · rw [if_neg e]
    exact h.2 q hq
def Don (l : List PSn) (a s : Nat) (x : List Int) (i q : Nat) : Prop := (IsD l a i s → 0 ≤ rd x (tAt l i q : Nat)) ∧ (IsD l a (tAt l i q) s → 0 ≤ rd x (i : Int))
/-- no place is unset again. -/
def Up (l : List PSn) (x y : List Int) : Prop := ∀ j : Nat, j < l.length → 0 ≤ rd x (j : Int) → 0 ≤ rd y (j : Int)
theorem Don.up {l : List PSn} (V : Vld l) {a s : Nat} {x y : List Int} {i q : Nat} (hi : i < l.length) (hq : q < (pAt l i).f2.length) (h : Don l a s x i q) (u : Up l x y) : Don l a s y i q :=
  ⟨fun d => u _ (V.tAt hi hq).2.1 (h.1 d), fun d => u _ hi (h.2 d)⟩
theorem Up.set {l : List PSn} {x : List Int} {j s : Nat} (hj : j < x.length) : Up l x (x.set j ((s : Int) + 1)) := fun q hq h => by
  rw [rd_set _ _ _ _ hj]
  by_cases e : q = j
  · rw [if_pos e]; omega
  · rw [if_neg e]; exact h
theorem rel_j6 {l : List PSn} (V : Vld l) {a s : Nat} {x : List Int} (M : Mid l a s x) (hs : s ≤ 1000) {i q : Nat} (hi : i < l.length) (hq : q < (pAt l i).f2.length) (bn : ByteArray) (P : Int × Int → Prop) (c : Bool)
    (hcc : c = true → IsD l a i s ∧ rd x (tAt l i q : Nat) < 0) (hcn : c = false → ¬ IsD l a i s ∨ 0 ≤ rd x (tAt l i q : Nat))
    (hnext : ∀ y, Mid l a s y → Up l x y → Don l a s y i q → EvP (fun k => spec_RelationOf.l3 k l bn y (s : Int) (i : Int) ((q + 1 : Nat) : Int)) P) :
    EvP (fun k => spec_RelationOf.j6 k l bn x (s : Int) (i : Int) (q : Int) ((tAt l i q : Nat) : Int) c) P := by
  have hlen := V.len
  have hf := V.few i hi
  obtain ⟨_, ht, hb, _⟩ := V.tAt hi hq
  have hxl := M.1
  -- the second half, from a list y
  have half : ∀ y, Mid l a s y → Up l x y → (IsD l a i s → 0 ≤ rd y (tAt l i q : Nat)) →
      EvP (fun k => if (rd y ((tAt l i q : Nat) : Int)) = (s : Int) then (if 0 ≤ (i : Int) then (if (i : Int) < (x.length : Int) then (if (rd y (i : Int)) < 0 then (spec_RelationOf.l3 k l bn (y.set ((i : Nat) : Int).toNat (wrap64 ((s : Int) + 1))) (s : Int) (i : Int) (wrap64 ((q : Int) + 1))) else (spec_RelationOf.l3 k l bn y (s : Int) (i : Int) (wrap64 ((q : Int) + 1)))) else (none)) else (none)) else (spec_RelationOf.l3 k l bn y (s : Int) (i : Int) (wrap64 ((q : Int) + 1)))) P := by
    intro y My uy h1
    rw [wrap64_up (by omega), wrap64_of (by omega) (by omega)]
    by_cases h2 : rd y ((tAt l i q : Nat) : Int) = (s : Int)
    · refine EvP.pos h2 (EvP.pos (by omega) (EvP.pos (by omega) ?_))
      have hd := (My.at ht).1 h2
      by_cases h3 : rd y (i : Int) < 0
      · refine EvP.pos h3 ?_
        rw [Int.toNat_natCast]
        have M2 := My.set (i := tAt l i q) (j := i) ht hi hd (.inr ⟨q, hq, rfl⟩) h3
        refine hnext _ M2 (fun j hj h => Up.set (l := l) (by have := My.1; omega) j hj (uy j hj h)) ⟨fun d => Up.set (l := l) (by have := My.1; omega) _ ht (h1 d), fun _ => ?_⟩
        rw [rd_set _ _ _ _ (by have := My.1; omega), if_pos rfl]; omega
      · exact EvP.neg h3 (hnext y My uy ⟨h1, fun _ => by omega⟩)
    · exact EvP.neg h2 (hnext y My uy ⟨h1, fun d => absurd ((My.at ht).2 d) h2⟩)
  refine EvP.step (fun k => spec_RelationOf.j6.eq_2 _ _ _ _ _ _ _ _ k) ?_
  cases c with
  | true =>
    obtain ⟨hd, h0⟩ := hcc rfl
    refine EvP.pos rfl (EvP.pos (by omega) (EvP.pos (by omega) ?_))
    simp only [Option.bind_some]
    rw [Int.toNat_natCast, show wrap64 ((s : Int) + 1) = (s : Int) + 1 from wrap64_of (by omega) (by omega)]
    have M1 := M.set hi ht hd (.inl ⟨q, hq, rfl⟩) h0
    have := half _ M1 (Up.set (l := l) (by omega)) (fun _ => by rw [rd_set _ _ _ _ (by omega), if_pos rfl]; omega)
    rw [show wrap64 ((s : Int) + 1) = (s : Int) + 1 from wrap64_of (by omega) (by omega)] at this
    exact this
  | false =>
    refine EvP.neg (by decide) (EvP.pos (by omega) (EvP.pos (by omega) ?_))
    refine half x M (fun _ _ h => h) fun d => ?_
    rcases hcn rfl with h | h
    · exact absurd d h
    · exact h
theorem rel_l3 {l : List PSn} (V : Vld l) {a s : Nat} (hs : s ≤ 1000) {i : Nat} (hi : i < l.length) (bn : ByteArray) (P : Int × Int → Prop) (x0 : List Int)
    (hnext : ∀ y, Mid l a s y → Up l x0 y → (∀ q, q < (pAt l i).f2.length → Don l a s y i q) → EvP (fun k => spec_RelationOf.l2 k l bn y (s : Int) ((i + 1 : Nat) : Int)) P) :
    ∀ (d q : Nat) (x : List Int), q + d = (pAt l i).f2.length → Mid l a s x → Up l x0 x → (∀ q', q' < q → Don l a s x i q') → EvP (fun k => spec_RelationOf.l3 k l bn x (s : Int) (i : Int) (q : Int)) P := by
  have hlen := V.len
  have hf := V.few i hi
  intro d
  induction d with
  | zero =>
    intro q x hq M u hd
    refine EvP.step (fun k => spec_RelationOf.l3.eq_2 _ _ _ _ _ _ k) (EvP.pos (by omega) (EvP.pos (by omega) ?_))
    rw [rdP]
    refine EvP.neg (by omega) ?_
    rw [wrap64_up (by omega)]
    exact hnext x M u fun q' h => hd q' (by omega)
  | succ d ih =>
    intro q x hq M u hd
    have hqq : q < (pAt l i).f2.length := by omega
    obtain ⟨h0, ht, _, _⟩ := V.tAt hi hqq
    have hxl := M.1
    refine EvP.step (fun k => spec_RelationOf.l3.eq_2 _ _ _ _ _ _ k) (EvP.pos (by omega) (EvP.pos (by omega) ?_))
    rw [rdP]
    refine EvP.pos (by omega) (EvP.pos (by omega) ?_)
    rw [rdS]
    refine EvP.ev (find_ev l _ (by unfold maxLen; omega)) ?_
    rw [h0]
    refine EvP.pos (by omega) ?_
    have go : ∀ c : Bool, (c = true → IsD l a i s ∧ rd x (tAt l i q : Nat) < 0) → (c = false → ¬ IsD l a i s ∨ 0 ≤ rd x (tAt l i q : Nat)) → EvP (fun k => spec_RelationOf.j6 k l bn x (s : Int) (i : Int) (q : Int) ((tAt l i q : Nat) : Int) c) P := fun c h1 h2 =>
      rel_j6 V M hs hi hqq bn P c h1 h2 fun y My uy hy => ih (q + 1) y (by omega) My (fun j hj h => uy j hj (u j hj h)) fun q' h' => by
        by_cases e : q' = q
        · subst e; exact hy
        · exact (hd q' (by omega)).up V hi (by omega) uy
    by_cases h1 : rd x (i : Int) = (s : Int)
    · refine EvP.pos h1 (EvP.pos (by omega) (EvP.pos (by omega) ?_))
      exact go _ (fun h => ⟨(M.at hi).1 h1, by simpa using h⟩) (fun h => .inr (by simpa using h))
    · exact EvP.neg h1 (go false (fun h => by cases h) (fun _ => .inl fun d => h1 ((M.at hi).2 d)))
theorem rel_l2 {l : List PSn} (V : Vld l) {a s : Nat} (hs : s ≤ 1000) (bn : ByteArray) (P : Int × Int → Prop)
    (hnext : ∀ y, Mid l a (s + 1) y → (∀ j, j < l.length → ¬ (IsD l a j (s + 2) ∧ rd y (j : Int) = ((s + 1 : Nat) : Int) + 1)) → EvP (fun k => spec_RelationOf.l1 k l bn y ((s + 1 : Nat) : Int)) P) :
    ∀ (d i : Nat) (x : List Int), i + d = l.length → Mid l a s x → (∀ i', i' < i → ∀ q, q < (pAt l i').f2.length → Don l a s x i' q) → EvP (fun k => spec_RelationOf.l2 k l bn x (s : Int) (i : Int)) P := by
  have hlen := V.len
  intro d
  induction d with
  | zero =>
    intro i x hi M hd
    refine EvP.step (fun k => spec_RelationOf.l2.eq_2 _ _ _ _ _ k) (EvP.neg (by omega) ?_)
    rw [wrap64_up (by omega)]
    have none2 : ∀ j, j < l.length → rd x (j : Int) ≤ (s : Int) + 1 := fun j hj => by
      rcases M.2 j hj with ⟨h1, h2⟩ | ⟨d, h1, h2, h3⟩ | ⟨h1, h2⟩ <;> omega
    refine hnext x ⟨M.1, fun j hj => ?_⟩ fun j hj h => by have := none2 j hj; omega
    rcases M.2 j hj with ⟨h1, h2⟩ | ⟨d, h1, h2, h3⟩ | ⟨h1, h2⟩
    · refine .inl ⟨h1, fun h => ?_⟩
      rcases h with h | ⟨p, hp, hp1, hp2⟩
      · exact h2 h
      · have hps : IsD l a p s := ⟨hp1, fun d' h' hd' => h2 (Lv.mono (d := d' + 1) (.inr ⟨p, hp, hd', hp2⟩) (by omega))⟩
        rcases hp2 with ⟨q, hq, e⟩ | ⟨q, hq, e⟩
        · have := (hd p (by omega) q hq).1 hps
          rw [e] at this
          omega
        · have := (hd j (by omega) q hq).2 (by rw [e]; exact hps)
          omega
    · exact .inr (.inl ⟨d, by omega, h2, h3⟩)
    · exact .inr (.inl ⟨s + 1, Nat.le_refl _, h1, by omega⟩)
  | succ d ih =>
    intro i x hi M hd
    refine EvP.step (fun k => spec_RelationOf.l2.eq_2 _ _ _ _ _ k) (EvP.pos (by omega) ?_)
    refine rel_l3 V hs (show i < l.length by omega) bn P x (fun y My uy hy => ih (i + 1) y (by omega) My fun i' h' q hq => ?_) (pAt l i).f2.length 0 x (by omega) M (fun _ _ h => h) (fun q' h => by omega)
    by_cases e : i' = i
    · subst e; exact hy q hq
    · exact (hd i' (by omega) q hq).up V (by omega) hq uy
theorem spec_rel {l : List PSn} (V : Vld l) {a b : Nat} (ha : a < l.length) (hb : b < l.length) (bn : ByteArray) (hbn : bn.toList = (pAt l b).f0.toList) :
    ∀ (d s : Nat) (x : List Int), s + d = l.length → Mid l a s x → (∀ j, j < l.length → ¬ (IsD l a j (s + 1) ∧ rd x (j : Int) = (s : Int) + 1)) → EvP (fun k => spec_RelationOf.l1 k l bn x (s : Int)) (Rel l a b) := by
  have hlen := V.len
  intro d
  induction d with
  | zero =>
    intro s x hs M h2
    refine EvP.step (fun k => spec_RelationOf.l1.eq_2 _ _ _ _ k) (EvP.neg (by omega) (EvP.ev (find_ev l bn (by unfold maxLen; omega)) ?_))
    rw [hbn, V.fnd hb]
    refine EvP.pos (by omega) (EvP.pos (by have := M.1; omega) ?_)
    have hsl : s = l.length := by omega
    rcases M.2 b hb with ⟨h3, h4⟩ | ⟨d, h3, h4, h5⟩ | h3
    · refine EvP.pos (by omega) (EvP.now _ (.inr ⟨fun d h => h4 ?_, rfl⟩))
      have := Lv.full ha d b hb h
      rw [hsl]; exact this
    · exact EvP.neg (by omega) (EvP.now _ (.inl ⟨d, h4, by rw [h5]⟩))
    · exact absurd h3 (h2 b hb)
  | succ d ih =>
    intro s x hs M h2
    refine EvP.step (fun k => spec_RelationOf.l1.eq_2 _ _ _ _ k) (EvP.pos (by omega) ?_)
    exact rel_l2 V (by omega) bn _ (fun y My h => ih (s + 1) y (by omega) My h) l.length 0 x (by omega) M (fun i' h => by omega)
theorem Mid.start {l : List PSn} {a : Nat} (ha : a < l.length) : Mid l a 0 ((List.replicate l.length (-1)).set a 0) := by
  refine ⟨by simp, fun j hj => ?_⟩
  rw [rd_set _ _ _ _ (by simpa using ha)]
  by_cases e : j = a
  · rw [if_pos e]
    exact .inr (.inl ⟨0, Nat.le_refl _, ⟨e, fun d' h => by omega⟩, rfl⟩)
  · rw [if_neg e]
    refine .inl ⟨?_, e⟩
    simp [rd, List.getD_eq_getElem?_getD, List.getElem?_replicate, hj]
def RelOf (l : List PSn) (a b : List UInt8) (r : Int × Int) : Prop :=
  (validB l = true ∧ ¬ fnd l a < 0 ∧ ¬ fnd l b < 0 ∧ Rel l (fnd l a).toNat (fnd l b).toNat r) ∨ (validB l = true ∧ (fnd l a < 0 ∨ fnd l b < 0) ∧ r = (0, 3)) ∨ (validB l = false ∧ r = (0, 1))
theorem RelOf.uniq {l : List PSn} {a b : List UInt8} {r r' : Int × Int} (h : RelOf l a b r) (h' : RelOf l a b r') : r = r' := by
  rcases h with ⟨h1, h2, h3, h4⟩ | ⟨h1, h2, h3⟩ | ⟨h1, h2⟩ <;> rcases h' with ⟨k1, k2, k3, k4⟩ | ⟨k1, k2, k3⟩ | ⟨k1, k2⟩
  · exact h4.uniq k4
  · rcases k2 with k | k <;> omega
  · rw [h1] at k1; cases k1
  · rcases h2 with k | k <;> omega
  · rw [h3, k3]
  · rw [h1] at k1; cases k1
  · rw [h1] at k1; cases k1
  · rw [h1] at k1; cases k1
  · rw [h2, k2]
theorem specRel_ev (l : List PSn) (an bn : ByteArray) (hb : bnd l) : EvP (fun k => spec_RelationOf.f k l an bn) (RelOf l an.toList bn.toList) := by
  have hend : ∀ c : Int, c ≠ 0 → ∀ P : Int × Int → Prop, P (0, c) → EvP (fun k => spec_RelationOf.j0 k l an bn c false) P := fun c hc P hP =>
    EvP.step (fun k => spec_RelationOf.j0.eq_2 _ _ _ _ _ k) (EvP.neg (by decide) (EvP.step (fun k => spec_RelationOf.j1.eq_2 _ _ _ _ k) (EvP.neg hc (EvP.now _ hP))))
  unfold spec_RelationOf.f
  refine EvP.ev (ask_ev l an hb) ?_
  by_cases h : validB l = true
  · have V := vld_of h
    have hlen := V.len
    by_cases h2 : fnd l an.toList < 0
    · refine EvP.neg (by simp [ask, h, h2]) (hend _ (by simp [ask, h, h2]) _ ?_)
      exact .inr (.inl ⟨h, .inl h2, by simp [ask, h, h2]⟩)
    · have ha0 : ask l an.toList = 0 := by simp [ask, h, h2]
      rw [ha0]
      refine EvP.pos rfl (EvP.ev (find_ev l bn (by unfold maxLen; omega)) ?_)
      by_cases h3 : fnd l bn.toList < 0
      · refine EvP.step (fun k => spec_RelationOf.j0.eq_2 _ _ _ _ _ k) (EvP.pos (by simpa using h3) (EvP.step (fun k => spec_RelationOf.j1.eq_2 _ _ _ _ k) (EvP.neg (by decide) (EvP.now _ ?_))))
        exact .inr (.inl ⟨h, .inr h3, rfl⟩)
      · refine EvP.step (fun k => spec_RelationOf.j0.eq_2 _ _ _ _ _ k) (EvP.neg (by simpa using h3) (EvP.step (fun k => spec_RelationOf.j1.eq_2 _ _ _ _ k) (EvP.pos rfl ?_)))
        rcases fnd_cases l an.toList with ⟨h6, _⟩ | ⟨a, ha1, ha2, ha3, _⟩
        · omega
        rcases fnd_cases l bn.toList with ⟨h6, _⟩ | ⟨b, hb1, hb2, hb3, _⟩
        · omega
        have fill : ∀ (d i : Nat), i + d = l.length → EvP (fun k => spec_RelationOf.l0 k l an bn (List.replicate i (-1)) (i : Int)) (Rel l a b) := by
          intro d
          induction d with
          | zero =>
            intro i hi
            refine EvP.step (fun k => spec_RelationOf.l0.eq_2 _ _ _ _ _ k) (EvP.neg (by omega) (EvP.ev (find_ev l an (by unfold maxLen; omega)) ?_))
            rw [ha1]
            refine EvP.pos (by omega) (EvP.pos (by simp; omega) ?_)
            rw [Int.toNat_natCast, show i = l.length by omega]
            refine spec_rel V ha2 hb2 bn hb3.symm l.length 0 _ (by omega) (Mid.start ha2) fun j hj h4 => ?_
            have h5 := h4.2
            rw [rd_set _ _ _ _ (by simpa using ha2)] at h5
            by_cases e : j = a
            · rw [if_pos e] at h5; simp at h5
            · rw [if_neg e] at h5
              simp [rd, List.getD_eq_getElem?_getD, List.getElem?_replicate, hj] at h5
          | succ d ih =>
            intro i hi
            refine EvP.step (fun k => spec_RelationOf.l0.eq_2 _ _ _ _ _ k) (EvP.pos (by omega) (EvP.pos (by simp; omega) ?_))
            rw [wrap64_up (by omega), show List.replicate i (-1 : Int) ++ [(-1)] = List.replicate (i + 1) (-1) by rw [List.replicate_succ']]
            exact ih (i + 1) (by omega)
        refine (fill l.length 0 (by omega)).mono fun r hr => .inl ⟨h, h2, h3, ?_⟩
        rw [ha1, hb1]
        exact hr
  · have ha1 : ask l an.toList = 1 := by simp [ask, h]
    rw [ha1]
    exact EvP.neg (by decide) (hend 1 (by decide) _ (.inr (.inr ⟨by simpa using h, rfl⟩)))
/-! ### the program's queue -/
theorem contains_ev (ts : List ByteArray) (nm : ByteArray) (hn : ts.length ≤ 1000) : EvP (fun k => slices_Contains_string_string.f k ts nm) (fun r => r = true ↔ ∃ q, q < ts.length ∧ (sAt ts q).toList = nm.toList) := by
  unfold slices_Contains_string_string.f
  have h : Ev (fun k => slices_Index_string_string.f k ts nm) (fndF (fun q => decide (nm.toList = (sAt ts q).toList)) ts.length 0) := by
    unfold slices_Index_string_string.f
    refine Ev.first (L := fun k i => slices_Index_string_string.l0 k ts nm (ts.length : Int) i) _ ts.length ?_ ?_
    · exact Ev.step (fun k => slices_Index_string_string.l0.eq_2 _ _ _ _ k) (Ev.neg (by omega) (Ev.now _))
    · intro i hi r hr
      refine Ev.step (fun k => slices_Index_string_string.l0.eq_2 _ _ _ _ k) (Ev.pos (by omega) (Ev.pos (by omega) (Ev.pos (by omega) ?_)))
      rw [rdS]
      by_cases h : nm.toList = (sAt ts i).toList
      · exact (Ev.pos h (Ev.now _)).eq (by simp [h])
      · refine (Ev.neg h ?_).eq (r := r) (by simp [h])
        rw [wrap64_up (by omega)]
        exact hr
  refine EvP.ev h (EvP.now _ ?_)
  rw [decide_eq_true_iff]
  rcases fndF_spec (fun q => decide (nm.toList = (sAt ts q).toList)) ts.length 0 with ⟨h1, h2⟩ | ⟨j, h1, _, h3, h4, _⟩
  · rw [h1]
    refine ⟨fun h => by omega, ?_⟩
    rintro ⟨q, hq, e⟩
    have := h2 q (Nat.zero_le _) (by omega)
    simp [e] at this
  · rw [h1]
    exact ⟨fun _ => ⟨j, by omega, by simpa using (of_decide_eq_true h4).symm⟩, fun _ => by omega⟩
theorem tch_iff {l : List PSn} (V : Vld l) {i h : Nat} (hi : i < l.length) (hh : h < l.length) (nm : ByteArray) (hn : nm.toList = (pAt l h).f0.toList) : (∃ q, q < (pAt l i).f2.length ∧ (sAt (pAt l i).f2 q).toList = nm.toList) ↔ Tch l i h := by
  constructor
  · rintro ⟨q, hq, e⟩
    obtain ⟨_, h1, _, h3⟩ := V.tAt hi hq
    exact ⟨q, hq, V.inj h1 hh (by rw [h3, e, hn])⟩
  · rintro ⟨q, hq, e⟩
    obtain ⟨_, h1, _, h3⟩ := V.tAt hi hq
    exact ⟨q, hq, by rw [← h3, e, hn]⟩
def Sn (l : List PSn) (m : PMap) (j : Nat) : Prop := (mget m (nmK l j)).isSome = true
structure Que (l : List PSn) (a s : Nat) (m : PMap) (A B : List Nat) (xs : List ByteArray) : Prop where
  names : xs.map (fun x => x.toList) = (A ++ B).map (fun i => (pAt l i).f0.toList)
  inA : ∀ i, i ∈ A → i < l.length ∧ IsD l a i s
  inB : ∀ i, i ∈ B → i < l.length ∧ IsD l a i (s + 1)
  val : ∀ j, j < l.length → ∀ v, mget m (nmK l j) = some v → ∃ d : Nat, v = d ∧ d ≤ s + 1 ∧ IsD l a j d
  seen : ∀ j, j < l.length → Lv l a s j → Sn l m j
  don : ∀ i, i < l.length → Lv l a s i → i ∉ A → ∀ j, j < l.length → Adj l i j → Sn l m j
  allB : ∀ j, j < l.length → IsD l a j (s + 1) → Sn l m j → j ∈ B
  len : m.length ≤ cnt (fun j => (mget m (nmK l j)).isSome) l.length 0
theorem Que.shift {l : List PSn} {a s : Nat} {m : PMap} {B : List Nat} {xs : List ByteArray} (h : Que l a s m [] B xs) : Que l a (s + 1) m B [] xs := by
  have hs : ∀ j, j < l.length → Lv l a (s + 1) j → Sn l m j := fun j hj hL => by
    rcases hL with hL | ⟨i, hi, h1, h2⟩
    · exact h.seen j hj hL
    · exact h.don i hi h1 (by simp) j hj h2
  refine ⟨by simpa using h.names, h.inB, by simp, fun j hj v hv => ?_, hs, fun i hi hL hn j hj hA => ?_, fun j hj hd hS => ?_, h.len⟩
  · obtain ⟨d, h1, h2, h3⟩ := h.val j hj v hv
    exact ⟨d, h1, by omega, h3⟩
  · by_cases hL' : Lv l a s i
    · exact h.don i hi hL' (by simp) j hj hA
    · exact absurd (h.allB i hi ⟨hL, fun d' h' hd => hL' (hd.mono (by omega))⟩ (hs i hi hL)) hn
  · obtain ⟨v, hv⟩ := Option.isSome_iff_exists.1 hS
    obtain ⟨d, h1, h2, h3⟩ := h.val j hj v hv
    have := h3.uniq hd
    omega
theorem Que.last {l : List PSn} {a s : Nat} {m : PMap} {xs : List ByteArray} (h : Que l a s m [] [] xs) {b : Nat} (hb : b < l.length) : (∀ v, mget m (nmK l b) = some v → Rel l a b (v, 0)) ∧ (mget m (nmK l b) = none → Rel l a b (0, 6)) := by
  have hst : ∀ j, j < l.length → Lv l a (s + 1) j → Lv l a s j := fun j hj hL => by
    have hS : Sn l m j := by
      rcases hL with hL | ⟨i, hi, h1, h2⟩
      · exact h.seen j hj hL
      · exact h.don i hi h1 (by simp) j hj h2
    obtain ⟨v, hv⟩ := Option.isSome_iff_exists.1 hS
    obtain ⟨d, h1, h2, h3⟩ := h.val j hj v hv
    by_cases e : d = s + 1
    · subst e
      exact absurd (h.allB j hj h3 hS) (by simp)
    · exact h3.1.mono (by omega)
  refine ⟨fun v hv => ?_, fun hv => .inr ⟨fun d hd => ?_, rfl⟩⟩
  · obtain ⟨d, h1, h2, h3⟩ := h.val b hb v hv
    exact .inl ⟨d, h3, by rw [h1]⟩
  · have := h.seen b hb (Lv.sat hst d b hb hd)
    unfold Sn at this
    rw [hv] at this
    cases this
def mea (l : List PSn) (m : PMap) (xs : List ByteArray) : Nat := 2 * (l.length - cnt (fun j => (mget m (nmK l j)).isSome) l.length 0) + xs.length
theorem Que.add {l : List PSn} (V : Vld l) {a s : Nat} {m : PMap} {h : Nat} {A B : List Nat} {xs : List ByteArray} (Q : Que l a s m (h :: A) B xs) {i : Nat} (hi : i < l.length) (hA : Adj l h i) (hn : mget m (nmK l i) = none) (nm : ByteArray) (hnm : nm.toList = (pAt l i).f0.toList) :
    Que l a s ((nmK l i, (s : Int) + 1) :: m) (h :: A) (B ++ [i]) (xs ++ [nm]) ∧ mea l ((nmK l i, (s : Int) + 1) :: m) (xs ++ [nm]) < mea l m xs := by
  obtain ⟨hh, hd⟩ := Q.inA h (by simp)
  have hi1 : IsD l a i (s + 1) := by
    refine ⟨.inr ⟨h, hh, hd.1, hA⟩, fun d' h' hd' => ?_⟩
    have := Q.seen i hi (hd'.mono (by omega))
    unfold Sn at this
    rw [hn] at this
    cases this
  have up : ∀ j, Sn l m j → Sn l ((nmK l i, (s : Int) + 1) :: m) j := fun j hS => by
    unfold Sn at hS ⊢
    rw [Go.Proofs.Ytfjnjcefcoboaaa.P.mget_cons]
    split
    · rfl
    · exact hS
  have hc1 := cnt_lt (p := fun j => (mget m (nmK l j)).isSome) (q := fun j => (mget ((nmK l i, (s : Int) + 1) :: m) (nmK l j)).isSome) (d := l.length) (i := 0) (fun j _ hj h1 => up j h1) ⟨i, Nat.zero_le _, by omega, by simp [hn], by
    show (mget ((nmK l i, (s : Int) + 1) :: m) (nmK l i)).isSome = true
    rw [Go.Proofs.Ytfjnjcefcoboaaa.P.mget_cons, if_pos rfl]; rfl⟩
  have hc2 := cnt_le (fun j => (mget ((nmK l i, (s : Int) + 1) :: m) (nmK l j)).isSome) l.length 0
  refine ⟨⟨?_, Q.inA, ?_, ?_, fun j hj hL => up j (Q.seen j hj hL), fun p hp hL hnA j hj hAd => up j (Q.don p hp hL hnA j hj hAd), ?_, ?_⟩, ?_⟩
  · have := Q.names
    simp only [List.map_append, List.map_cons, List.map_nil, List.cons_append] at this ⊢
    rw [this, hnm]
    simp
  · intro j hj
    rw [List.mem_append] at hj
    rcases hj with hj | hj
    · exact Q.inB j hj
    · rw [List.mem_singleton] at hj
      subst hj; exact ⟨hi, hi1⟩
  · intro j hj v hv
    rw [Go.Proofs.Ytfjnjcefcoboaaa.P.mget_cons] at hv
    by_cases e : nmK l i = nmK l j
    · rw [if_pos e] at hv
      have := nmK_inj V hi hj e
      subst this
      injection hv with hv
      exact ⟨s + 1, by omega, Nat.le_refl _, hi1⟩
    · rw [if_neg e] at hv
      exact Q.val j hj v hv
  · intro j hj hdj hS
    by_cases e : j = i
    · subst e; simp
    · unfold Sn at hS
      rw [Go.Proofs.Ytfjnjcefcoboaaa.P.mget_cons, if_neg (fun e' => e (nmK_inj V hi hj e').symm)] at hS
      exact List.mem_append_left _ (Q.allB j hj hdj hS)
  · have := Q.len
    simp only [List.length_cons]
    omega
  · unfold mea
    simp only [List.length_append, List.length_cons, List.length_nil]
    omega
theorem que_ev {l : List PSn} (V : Vld l) {a b : Nat} (ha : a < l.length) (hb : b < l.length) (bn : ByteArray) (hbn : bn.toList = (pAt l b).f0.toList) :
    ∀ (u : Nat), u ≤ 1000 → ∀ (s : Nat) (m : PMap) (A B : List Nat) (xs : List ByteArray), Que l a s m A B xs → mea l m xs < u → EvP (fun k => impl_RelationOf.l0 k bn l m xs) (Rel l a b) := by
  have hlen := V.len
  intro u
  induction u with
  | zero => intro _ s m A B xs Q h; omega
  | succ u ih =>
    intro hu s m A B xs Q hm
    have hnl : xs.length = (A ++ B).length := by
      have := congrArg List.length Q.names
      simpa using this
    by_cases h0 : xs.length = 0
    · have e : A ++ B = [] := List.length_eq_zero_iff.1 (by omega)
      obtain ⟨rfl, rfl⟩ := List.append_eq_nil_iff.1 e
      have hbk : bn.data.toList = nmK l b := by rw [← ByteArray.toList_eq, hbn, ByteArray.toList_eq]; rfl
      have hbz : bn.size = (pAt l b).f0.size := by rw [← data_length, ← data_length, hbk]; rfl
      have hbs := V.size hb
      obtain ⟨q1, q2⟩ := Q.last hb
      refine EvP.step (fun k => impl_RelationOf.l0.eq_2 _ _ _ _ k) (EvP.neg (by omega) (EvP.pos (by unfold maxLen; omega) ?_))
      rw [hbk]
      cases hv : mget m (nmK l b) with
      | none => exact EvP.neg (by simp) (EvP.now _ (q2 hv))
      | some v => exact EvP.pos (by simp) (EvP.now _ (q1 v hv))
    · -- the head stands in the layer s
      obtain ⟨s, h, A, B, Q⟩ : ∃ s h A B, Que l a s m (h :: A) B xs := by
        cases A with
        | cons h A => exact ⟨s, h, A, B, Q⟩
        | nil =>
          have Q' := Q.shift
          cases B with
          | nil => exact absurd (show xs.length = 0 from hnl) h0
          | cons h B => exact ⟨s + 1, h, B, [], Q'⟩
      obtain ⟨hh, hd⟩ := Q.inA h (by simp)
      have hsn : s ≤ l.length := hd.le (Lv.full ha s h hh hd.1)
      refine EvP.step (fun k => impl_RelationOf.l0.eq_2 _ _ _ _ k) (EvP.pos (by omega) ?_)
      have key : ∀ (d i : Nat) (m : PMap) (B : List Nat) (xs : List ByteArray), i + d = l.length → Que l a s m (h :: A) B xs → mea l m xs < u + 1 → (∀ j, j < i → Adj l h j → Sn l m j) → EvP (fun k => impl_RelationOf.l1 k bn l m xs l (l.length : Int) (i : Int)) (Rel l a b) := by
        intro d
        induction d with
        | zero =>
          intro i m B xs hi Q hm hs
          have hnl : xs.length = (h :: A ++ B).length := by
            have := congrArg List.length Q.names
            simpa using this
          simp only [List.cons_append, List.length_cons] at hnl
          refine EvP.step (fun k => impl_RelationOf.l1.eq_2 _ _ _ _ _ _ _ k) (EvP.neg (by omega) (EvP.pos (by omega) ?_))
          refine ih (by omega) s m A B _ ⟨?_, fun i hi => Q.inA i (List.mem_cons_of_mem _ hi), Q.inB, Q.val, Q.seen, fun p hp hL hn j hj hA => ?_, Q.allB, Q.len⟩ ?_
          · have := Q.names
            cases xs with
            | nil => simp at hnl
            | cons x xs =>
              simp only [List.map_cons, List.cons_append] at this
              injection this with _ this
          · by_cases e : p = h
            · subst e; exact hs j (by omega) hA
            · exact Q.don p hp hL (fun h' => by rcases List.mem_cons.1 h' with h' | h'
                                                · exact e h'
                                                · exact hn h') j hj hA
          · unfold mea at hm ⊢
            have : (xs.drop (1 : Int).toNat).length + 1 = xs.length := by simp; omega
            omega
        | succ d ihd =>
          intro i m B xs hi Q hm hs
          have hil : i < l.length := by omega
          have hnl : xs.length = (h :: A ++ B).length := by
            have := congrArg List.length Q.names
            simpa using this
          simp only [List.cons_append, List.length_cons] at hnl
          have hx0 : (sAt xs 0).toList = (pAt l h).f0.toList := by
            have := Q.names
            cases xs with
            | nil => simp at hnl
            | cons x xs =>
              simp only [List.map_cons, List.cons_append] at this
              injection this with this _
          have hxk : (sAt xs 0).data.toList = nmK l h := by rw [← ByteArray.toList_eq, hx0, ByteArray.toList_eq]; rfl
          have hxz : (sAt xs 0).size = (pAt l h).f0.size := by rw [← data_length, ← data_length, hxk]; rfl
          have hhs := V.size hh
          have his := V.size hil
          have hfi := V.few i hil
          have hfh := V.few h hh
          have hmea : xs.length ≤ mea l m xs := by unfold mea; omega
          have hml := Q.len
          have hmc := cnt_le (fun j => (mget m (nmK l j)).isSome) l.length 0
          have e0 : rdOf ByteArray.empty xs 0 = sAt xs 0 := rdS xs 0
          refine EvP.step (fun k => impl_RelationOf.l1.eq_2 _ _ _ _ _ _ _ k) (EvP.pos (by omega) (EvP.pos (by omega) (EvP.pos (by omega) (EvP.pos (by omega) ?_))))
          rw [rdP, e0]
          refine EvP.pos (by unfold maxLen; omega) (EvP.bind (contains_ev _ _ (by omega)) fun r1 hr1 => ?_)
          rw [tch_iff V hil hh _ hx0] at hr1
          rw [wrap64_up (by omega), show (pAt l i).f0.data.toList = nmK l i from rfl, hxk]
          -- a near one
          have near : Adj l h i → EvP (fun k => if (mget m (nmK l i)).isSome = true then impl_RelationOf.l1 k bn l m xs l (l.length : Int) ((i + 1 : Nat) : Int) else (if xs.length < 8796093022208 then (if (sAt xs 0).size ≤ maxLen then (if m.length < 1000000 then (impl_RelationOf.l1 k bn l ((nmK l i, wrap64 (((mget m (nmK l h)).getD 0) + 1)) :: m) (xs ++ [(pAt l i).f0]) l (l.length : Int) ((i + 1 : Nat) : Int)) else (none)) else (none)) else (none))) (Rel l a b) := by
            intro hA
            by_cases hS : (mget m (nmK l i)).isSome = true
            · refine EvP.pos hS (ihd (i + 1) m B xs (by omega) Q hm fun j hj hAj => ?_)
              by_cases e : j = i
              · subst e; exact hS
              · exact hs j (by omega) hAj
            · have hn : mget m (nmK l i) = none := by simpa using hS
              refine EvP.neg hS (EvP.pos (by omega) (EvP.pos (by unfold maxLen; omega) (EvP.pos (by omega) ?_)))
              have hSh := Q.seen h hh hd.1
              obtain ⟨v, hv⟩ := Option.isSome_iff_exists.1 hSh
              obtain ⟨d', k1, k2, k3⟩ := Q.val h hh v hv
              have := k3.uniq hd
              subst this
              rw [hv, show wrap64 ((some v).getD 0 + 1) = (d' : Int) + 1 by rw [k1]; exact wrap64_of (by simp; omega) (by simp; omega)]
              obtain ⟨Q', hmm⟩ := Q.add V hil hA hn (pAt l i).f0 rfl
              refine ihd (i + 1) _ _ _ (by omega) Q' (by omega) fun j hj hAj => ?_
              unfold Sn
              rw [Go.Proofs.Ytfjnjcefcoboaaa.P.mget_cons]
              by_cases e : j = i
              · subst e; rw [if_pos rfl]; rfl
              · split
                · rfl
                · exact hs j (by omega) hAj
          cases r1 with
          | true => exact EvP.pos rfl (near (.inr (hr1.1 rfl)))
          | false =>
            have hn1 : ¬ Tch l i h := fun h' => by have := hr1.2 h'; cases this
            refine EvP.neg (by decide) (EvP.ev (personAt_ev l _ (by unfold maxLen; omega)) ?_)
            rw [hx0, V.fnd hh]
            refine EvP.pos (by omega) (EvP.pos (by omega) ?_)
            rw [rdP]
            refine EvP.bind (contains_ev _ _ (by omega)) fun r2 hr2 => ?_
            rw [tch_iff V hh hil _ rfl] at hr2
            cases r2 with
            | true => exact EvP.pos rfl (near (.inl (hr2.1 rfl)))
            | false =>
              refine EvP.neg (by decide) (ihd (i + 1) m B xs (by omega) Q hm fun j hj hAj => ?_)
              by_cases e : j = i
              · subst e
                rcases hAj with h' | h'
                · have := hr2.2 h'; cases this
                · exact absurd h' hn1
              · exact hs j (by omega) hAj
      exact key l.length 0 m B xs (by omega) Q hm (fun j hj => by omega)
theorem implRel_ev (l : List PSn) (an bn : ByteArray) (hb : bnd l) : EvP (fun k => impl_RelationOf.f k l an bn) (RelOf l an.toList bn.toList) := by
  unfold impl_RelationOf.f
  refine EvP.ev (code_ev l [an, bn] hb (by simp)) ?_
  by_cases h : validB l = true
  · have V := vld_of h
    have hlen := V.len
    by_cases h2 : fnd l an.toList < 0
    · refine EvP.neg (by simp [codeOf, missing, h, h2]) (EvP.now _ (.inr (.inl ⟨h, .inl h2, by simp [codeOf, missing, h, h2]⟩)))
    by_cases h3 : fnd l bn.toList < 0
    · refine EvP.neg (by simp [codeOf, missing, h, h3]) (EvP.now _ (.inr (.inl ⟨h, .inr h3, by simp [codeOf, missing, h, h3]⟩)))
    rcases fnd_cases l an.toList with ⟨h6, _⟩ | ⟨a, ha1, ha2, ha3, _⟩
    · omega
    rcases fnd_cases l bn.toList with ⟨h6, _⟩ | ⟨b, hb1, hb2, hb3, _⟩
    · omega
    have hak : an.data.toList = nmK l a := by rw [← ByteArray.toList_eq, ← ha3, ByteArray.toList_eq]; rfl
    have haz : an.size = (pAt l a).f0.size := by rw [← data_length, ← data_length, hak]; rfl
    have has := V.size ha2
    refine EvP.pos (by simp [codeOf, missing, h, h2, h3]) (EvP.pos (by unfold maxLen; omega) ?_)
    rw [hak]
    have hg : ∀ j, mget [(nmK l a, (0 : Int))] (nmK l j) = if nmK l a = nmK l j then some 0 else none := fun j => by
      rw [Go.Proofs.Ytfjnjcefcoboaaa.P.mget_cons]; rfl
    have Q : Que l a 0 [(nmK l a, 0)] [a] [] [an] := by
      refine ⟨by simp [ha3], fun i hi => ?_, by simp, fun j hj v hv => ?_, fun j hj hL => ?_, fun i hi hL hn => ?_, fun j hj hd hS => ?_, ?_⟩
      · rw [List.mem_singleton] at hi
        subst hi
        exact ⟨ha2, rfl, fun d' h' => by omega⟩
      · rw [hg] at hv
        by_cases e : nmK l a = nmK l j
        · rw [if_pos e] at hv
          have := nmK_inj V ha2 hj e
          subst this
          injection hv with hv
          exact ⟨0, hv.symm, Nat.zero_le _, rfl, fun d' h' => by omega⟩
        · rw [if_neg e] at hv; cases hv
      · unfold Sn
        rw [hg, show j = a from hL, if_pos rfl]; rfl
      · exact absurd (List.mem_singleton.2 (show i = a from hL)) hn
      · unfold Sn at hS
        rw [hg] at hS
        by_cases e : nmK l a = nmK l j
        · have := nmK_inj V ha2 hj e
          subst this
          exact absurd (show Lv l a 0 a from rfl) (hd.2 0 (by omega))
        · rw [if_neg e] at hS; cases hS
      · have := cnt_lt (p := fun _ => false) (q := fun j => (mget [(nmK l a, (0 : Int))] (nmK l j)).isSome) (d := l.length) (i := 0) (fun _ _ _ h => by cases h) ⟨a, Nat.zero_le _, by omega, rfl, by
          show (mget [(nmK l a, (0 : Int))] (nmK l a)).isSome = true
          rw [hg, if_pos rfl]; rfl⟩
        simp only [List.length_cons, List.length_nil]
        omega
    refine (que_ev V ha2 hb2 bn hb3.symm 100 (by omega) 0 _ [a] [] [an] Q (by unfold mea; simp only [List.length_cons, List.length_nil]; omega)).mono fun r hr => .inl ⟨h, h2, h3, ?_⟩
    rw [ha1, hb1]
    exact hr
  · exact EvP.neg (by simp [codeOf, h]) (EvP.now _ (.inr (.inr ⟨by simpa using h, by simp [codeOf, h]⟩)))
end Go.Proofs.Ytfjnjcefcoboaaa.P


/- The law FnExactRelationOf in plain words: what the reference says and what the program says of two names is one and the same, and the reading of persons is left as it was. -/
namespace Go.Proofs.Ytfjnjcefcoboaaa.Pure
open Go.RowKit Go.Proofs.Ytfjnjcefcoboaaa.P Go.Proofs.YtfjnjcefcoboaaaW.PrintWords Go.Proofs.YtfjnjcefcoboaaaW.PrintLast Go.Proofs.YtfjnjcefcoboaaaW.PrintMore
theorem qAt_cv (l : List PLn) (i : Nat) (hi : i < l.length) : pAt (l.map cv) i = cv (qAt l i) := by
  simp [pAt, qAt, List.getD_eq_getElem?_getD, List.getElem?_eq_getElem hi]
theorem pAt_out (l : List PSn) (i : Nat) (hi : ¬ i < l.length) : (pAt l i).f2 = [] := by
  have : l[i]? = none := List.getElem?_eq_none (by omega)
  simp [pAt, List.getD_eq_getElem?_getD, this]
  rfl
theorem okQ_of {l : List PLn} (h : ∀ y ∈ l, ok_T34 y) (i : Nat) (hi : i < l.length) : okQ (qAt l i) := by
  have := h (qAt l i) (by rw [show qAt l i = l[i] by simp [qAt, List.getD_eq_getElem?_getD, List.getElem?_eq_getElem hi]]; exact List.getElem_mem hi)
  refine ⟨this.1, this.2.2.1, fun q hq => this.2.2.2 _ ?_⟩
  rw [show sAt (qAt l i).f2 q = (qAt l i).f2[q] by simp [sAt, List.getD_eq_getElem?_getD, List.getElem?_eq_getElem hq]]
  exact List.getElem_mem hq
theorem FnExactRelationOf : laws_FnExactRelationOf.Pure := by
  intro l an bn hl hn hn'
  refine Ev.rounds ?_
  unfold laws_FnExactRelationOf.f
  by_cases h : (an.size : Int) > 1048576
  · exact Ev.pos h (Ev.now _)
  refine Ev.neg h ?_
  by_cases h : (bn.size : Int) > 1048576
  · exact Ev.pos h (Ev.now _)
  refine Ev.neg h ?_
  obtain ⟨r, hr, h1, h2, h3⟩ := szPersS l 1048576 (by omega) (by omega) hl.1 (okQ_of hl.2)
  refine Ev.bind hr ?_
  by_cases h4 : r < 0
  · exact Ev.pos h4 (Ev.now _)
  refine Ev.neg h4 ?_
  obtain ⟨h5, h6⟩ := h3 (by omega)
  have hto := toPersS l h5 h6
  have hlen : (l.map cv).length = l.length := by simp
  have hf : ∀ i, (pAt (l.map cv) i).f2.length ≤ 1048576 := fun i => by
    by_cases hi : i < l.length
    · rw [qAt_cv l i hi]; exact (h6 i hi).2.1
    · rw [pAt_out _ i (by omega)]; simp
  have hb : bnd (l.map cv) := ⟨by omega, fun i => by have := hf i; omega⟩
  obtain ⟨r1, e1, R1⟩ := specRel_ev (l.map cv) an bn hb
  obtain ⟨r2, e2, R2⟩ := implRel_ev (l.map cv) an bn hb
  have := R1.uniq R2
  subst this
  refine Ev.bind hto (Ev.bind e1 (Ev.bind hto (Ev.bind e2 (Ev.pos rfl ?_))))
  rw [show (r1.2 != r1.2) = false by simp]
  exact Ev.step (fun k => laws_FnExactRelationOf.j0.eq_2 _ _ _ k) (Ev.neg (by decide) (Ev.bind hto (Ev.bind (eqPersS _ (by omega) fun i _ => hf i) (Ev.pos rfl (Ev.now _)))))
end Go.Proofs.Ytfjnjcefcoboaaa.Pure

/- Words of this session's own: what an argument reads as, in the print's words: a value that reads as data is a reading of the print's. No condition. -/
namespace Go.Proofs.YtfjnjcefcoboaaaW.PrintWords
open Go.RowKit Go.Deep
/-- Whatever reads as data of type t is a d, and its parts are in their bounds. -/
def Rd {α : Type} (P : Program) (d : Kd α) (t : TypeId) (ok : α → Prop) : Prop :=
  ∀ (H : Type) (enc : TypeId × Value → H) (w : World) (base : Nat) (sp : Nat → Bool) (held : Bool) (fuel : Nat) (cs : List Value) (x : DataW H × List MemPlace), DataW.trod enc P w base sp held fuel t cs = some x → ∃ a, d.K w a cs ∧ ok a
section
variable {P : Program} {α : Type}
theorem rd_string {t : TypeId} (ht : P.underlying t = some .string) : Rd P Kd.string t (fun s => s.size ≤ maxLen) := by
  intro H enc w base sp held fuel cs x h
  obtain ⟨s, rfl, _, hs⟩ := DataW.trod_string ht h
  exact ⟨s, rfl, hs⟩
theorem rd_int {t : TypeId} {k : IntKind} (ht : P.underlying t = some (.int k)) : Rd P (Kd.int k) t (fun n => (Lit.int k n).wf = true) := by
  intro H enc w base sp held fuel cs x h
  obtain ⟨n, rfl, _, hn⟩ := DataW.trod_int ht h
  exact ⟨n, rfl, hn⟩
theorem rd_slice {t e : TypeId} {d : Kd α} {ok : α → Prop} (ht : P.underlying t = some (.slice e)) (hd : Rd P d e ok) (hs : P.cellsOf e = d.sz) : Rd P (Kd.slice e d) t (fun l => l.length ≤ maxLen ∧ ∀ a ∈ l, ok a) := by
  intro H enc w base sp held fuel cs x h
  rcases open_slice ht h with ⟨rfl, _⟩ | ⟨a, len, cap, m, n, D, Pl, rfl, _, hl, hm, hmm, _, hx⟩
  · exact ⟨[], ⟨none, 0, rfl, Nat.le_refl _, rfl, by simp, fun h => absurd h (Nat.lt_irrefl 0)⟩, by simp, fun a ha => by simp at ha⟩
  · have hle : len ≤ m := by rw [hmm]; split <;> omega
    have hq : ∀ i, i < len → ∃ cs' y, w.cells? base (a.add (i * P.cellsOf e)) (P.cellsOf e) = some cs' ∧ d.K w y cs' ∧ ok y := fun i hi => by
      obtain ⟨cs', h1, h2⟩ := hx i (by omega)
      obtain ⟨y, h3, h4⟩ := hd H enc w base sp held n cs' _ h2
      exact ⟨cs', y, h1, h3, h4⟩
    have hC : ∀ k, k ≤ len → ∃ l : List α, l.length = k ∧ ∀ i y, l[i]? = some y → ∃ cs', w.cells? base (a.add (i * P.cellsOf e)) (P.cellsOf e) = some cs' ∧ d.K w y cs' ∧ ok y := by
      intro k
      induction k with
      | zero => intro _; exact ⟨[], rfl, fun i y h => by simp at h⟩
      | succ k ih =>
        intro hk
        obtain ⟨l, hl, hp⟩ := ih (by omega)
        obtain ⟨cs', y, h1, h2, h3⟩ := hq k (by omega)
        refine ⟨l ++ [y], by simp [hl], fun i z hz => ?_⟩
        rcases Nat.lt_or_ge i l.length with hi | hi
        · rw [List.getElem?_append_left hi] at hz
          exact hp i z hz
        · rw [List.getElem?_append_right hi] at hz
          have hi' : i - l.length = 0 := by
            have := (List.getElem?_eq_some_iff.1 hz).1
            simp at this
            omega
          rw [hi'] at hz
          have : y = z := by simpa using hz
          subst this
          have : i = k := by omega
          subst this
          exact ⟨cs', h1, h2, h3⟩
    obtain ⟨l, hll, hp⟩ := hC len (Nat.le_refl _)
    subst hll
    refine ⟨l, ⟨some a, cap, rfl, hl, rfl, by unfold maxLen at hm; omega, fun _ => ⟨a, rfl, fun j p hj => ?_⟩⟩, by omega, fun y hy => ?_⟩
    · obtain ⟨cs', h1, h2, _⟩ := hp j p hj
      refine ⟨cs', d.K_len h2, h2, fun i u hu => ?_⟩
      obtain ⟨_, hlen, hcell⟩ := World.cells?_some h1
      rw [← add_add, ← hs]
      exact (hcell i (by rw [← hlen]; exact (List.getElem?_eq_some_iff.1 hu).1)).trans hu
    · obtain ⟨i, hi⟩ := List.mem_iff_getElem?.1 hy
      obtain ⟨_, _, _, h3⟩ := hp i y hi
      exact h3
end
end Go.Proofs.YtfjnjcefcoboaaaW.PrintWords
