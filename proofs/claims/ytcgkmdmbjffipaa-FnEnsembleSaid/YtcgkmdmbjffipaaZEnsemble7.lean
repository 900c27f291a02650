/- The texts QName, QTrn, QSrc, QEns1, QEns2, QEns3, PureFnEnsemble, one behind the other: what functions of the program, its reference and its laws come to, the words that this takes, and what follows. No condition beyond what each theorem names. -/
import Derived.Test.YtcgkmdmbjffipaaZEnsemble1
import Derived.Test.YtcgkmdmbjffipaaZEnsemble5
import Derived.Test.YtcgkmdmbjffipaaZEnsemble0
import Derived.Test.YtcgkmdmbjffipaaZEnsemble2
import Derived.Test.YtcgkmdmbjffipaaZEnsemble3
import Derived.Test.YtcgkmdmbjffipaaZEnsemble4
import Derived.Test.YtcgkmdmbjffipaaZEnsemble6
namespace Go.Proofs.Ytcgkmdmbjffipaa.P
open Go.RowKit Go.Proofs.YtcgkmdmbjffipaaW.PrintWords Go.Proofs.YtcgkmdmbjffipaaW.PrintLast Go.Proofs.YtcgkmdmbjffipaaW.PrintMore
set_option linter.unusedVariables false
set_option linter.unusedSimpArgs false
def okb (c : Int) : Bool := decide (97 ≤ c ∧ c ≤ 122) || decide (48 ≤ c ∧ c ≤ 57)
def nameB (s : ByteArray) : Bool := decide (1 ≤ s.size ∧ s.size ≤ 10) && (decide (97 ≤ bt s 0 ∧ bt s 0 ≤ 122) && allF (fun i => okb (bt s i)) s.size 0)
theorem toList_nil (s : ByteArray) : s.toList = ([] : List UInt8) ↔ s.size = 0 := by
  rw [ByteArray.toList_eq, ← data_length, List.length_eq_zero_iff]
theorem small_ev (c : Int) : spec_l01Small.f c = some (decide (97 ≤ c ∧ c ≤ 122)) := by
  unfold spec_l01Small.f
  by_cases h : c ≥ 97
  · rw [if_pos h]; congr 1; simp; omega
  · rw [if_neg h]; congr 1; simp; omega
theorem digit_ev (c : Int) : spec_l01Digit.f c = some (decide (48 ≤ c ∧ c ≤ 57)) := by
  unfold spec_l01Digit.f
  by_cases h : c ≥ 48
  · rw [if_pos h]; congr 1; simp; omega
  · rw [if_neg h]; congr 1; simp; omega
theorem specName_ev (s : ByteArray) : Ev (fun k => spec_l01Name.f k s) (nameB s) := by
  have hj : Ev (fun k => spec_l01Name.j0 k s true) false := Ev.step (f := fun k => some false) (fun k => by simp [spec_l01Name.j0]) (Ev.now _)
  unfold spec_l01Name.f
  by_cases h0 : s.size = 0
  · refine Ev.pos ((toList_nil s).2 h0) (hj.eq ?_)
    simp [nameB, h0]
  · refine Ev.neg (fun h => h0 ((toList_nil s).1 h)) ?_
    by_cases h1 : (s.size : Int) > 10
    · refine Ev.pos h1 (hj.eq ?_)
      have : ¬ s.size ≤ 10 := by omega
      simp [nameB, this]
    · refine Ev.neg h1 (Ev.pos (by omega) ?_)
      simp only [small_ev, Option.bind_some]
      have h2 : decide (1 ≤ s.size ∧ s.size ≤ 10) = true := by simp; omega
      unfold nameB
      rw [h2, Bool.true_and]
      by_cases h3 : 97 ≤ bt s 0 ∧ bt s 0 ≤ 122
      · rw [decide_eq_true h3, Bool.true_and]
        refine Ev.step (f := fun k => spec_l01Name.l0 k s 0) (fun k => by simp [spec_l01Name.j0]) ?_
        have := Ev.allR (L := fun k i => spec_l01Name.l0 k s i) (fun i => okb (bt s i)) s.size true ?_ ?_
        · simpa using this
        · exact Ev.step (f := fun k => some true) (fun k => by simp [spec_l01Name.l0]) (Ev.now _)
        · intro i hi r hr
          have e1 : (i : Int) < (s.size : Int) := by omega
          have e2 : (0 : Int) ≤ (i : Int) := by omega
          by_cases c1 : 97 ≤ bt s i ∧ bt s i ≤ 122
          · refine Ev.step (f := fun k => spec_l01Name.l0 k s ((i + 1 : Nat) : Int)) (fun k => ?_) (hr.eq ?_)
            · simp only [spec_l01Name.l0, if_pos e1, if_pos e2, small_ev, Option.bind_some, decide_eq_true c1, if_true]
              rw [wrap64_up (by omega)]
            · simp [okb, c1]
          · by_cases c2 : 48 ≤ bt s i ∧ bt s i ≤ 57
            · refine Ev.step (f := fun k => spec_l01Name.l0 k s ((i + 1 : Nat) : Int)) (fun k => ?_) (hr.eq ?_)
              · simp only [spec_l01Name.l0, if_pos e1, if_pos e2, small_ev, digit_ev, Option.bind_some, decide_eq_false c1, decide_eq_true c2, if_true, Bool.false_eq_true, if_false]
                rw [wrap64_up (by omega)]
              · simp [okb, c2]
            · refine Ev.step (f := fun k => some false) (fun k => ?_) ((Ev.now _).eq ?_)
              · simp only [spec_l01Name.l0, if_pos e1, if_pos e2, small_ev, digit_ev, Option.bind_some, decide_eq_false c1, decide_eq_false c2, Bool.false_eq_true, if_false]
              · simp [okb, c1, c2]
      · rw [decide_eq_false h3, Bool.false_and]
        exact hj
theorem implName_ev (s : ByteArray) : Ev (fun k => impl_IsName.f k s) (nameB s) := by
  unfold impl_IsName.f
  by_cases h0 : (s.size : Int) < 1
  · refine Ev.pos h0 ((Ev.now _).eq ?_)
    have : ¬ 1 ≤ s.size := by omega
    simp [nameB, this]
  refine Ev.neg h0 ?_
  by_cases h1 : (s.size : Int) > 10
  · refine Ev.pos h1 ((Ev.now _).eq ?_)
    have : ¬ s.size ≤ 10 := by omega
    simp [nameB, this]
  refine Ev.neg h1 (Ev.pos (by omega) ?_)
  have h2 : decide (1 ≤ s.size ∧ s.size ≤ 10) = true := by simp; omega
  unfold nameB
  rw [h2, Bool.true_and]
  by_cases h3 : (bt s 0) < 97
  · refine Ev.pos h3 ((Ev.now _).eq ?_)
    have : ¬ 97 ≤ bt s 0 := by omega
    simp [this]
  refine Ev.neg h3 ?_
  by_cases h4 : (bt s 0) > 122
  · refine Ev.pos h4 ((Ev.now _).eq ?_)
    have : ¬ bt s 0 ≤ 122 := by omega
    simp [this]
  refine Ev.neg h4 ?_
  rw [decide_eq_true (show 97 ≤ bt s 0 ∧ bt s 0 ≤ 122 by omega), Bool.true_and]
  refine Ev.bind (a := allF (fun i => okb (bt s i)) s.size 0) ?_ (Ev.now _)
  unfold impl_onlyNameBytes.f
  have := Ev.allR (L := fun k i => impl_onlyNameBytes.l0 k s (s.size : Int) i) (fun i => okb (bt s i)) s.size true ?_ ?_
  · simpa using this
  · exact Ev.step (f := fun k => some true) (fun k => by simp [impl_onlyNameBytes.l0]) (Ev.now _)
  · intro i hi r hr
    have e1 : (i : Int) < (s.size : Int) := by omega
    have e2 : (0 : Int) ≤ (i : Int) := by omega
    have key : okb (bt s i) = true ∧ (∀ k, impl_onlyNameBytes.l0 (k + 1) s (s.size : Int) (i : Int) = impl_onlyNameBytes.l0 k s (s.size : Int) ((i + 1 : Nat) : Int)) ∨ okb (bt s i) = false ∧ (∀ k, impl_onlyNameBytes.l0 (k + 1) s (s.size : Int) (i : Int) = some false) := by
      simp only [impl_onlyNameBytes.l0, if_pos e1, if_pos e2]
      rw [wrap64_up (by omega)]
      unfold okb
      by_cases a1 : bt s i < 97 <;> by_cases a2 : bt s i < 48 <;> by_cases a3 : bt s i > 57 <;> by_cases a4 : bt s i > 122 <;> simp [a1, a2, a3, a4] <;> omega
    rcases key with ⟨k1, k2⟩ | ⟨k1, k2⟩
    · exact Ev.step k2 (hr.eq (by rw [k1, Bool.true_and]))
    · exact Ev.step k2 ((Ev.now _).eq (by rw [k1, Bool.false_and]))
end Go.Proofs.Ytcgkmdmbjffipaa.P
namespace Go.Proofs.Ytcgkmdmbjffipaa.P
open Go.RowKit Go.Proofs.YtcgkmdmbjffipaaW.PrintWords Go.Proofs.YtcgkmdmbjffipaaW.PrintLast Go.Proofs.YtcgkmdmbjffipaaW.PrintMore
set_option linter.unusedVariables false
set_option linter.unusedSimpArgs false
abbrev TRn := S36
def tAt (l : List TRn) (i : Nat) : TRn := l.getD i z36
theorem rdTr (l : List TRn) (i : Nat) : rd_T36 l (i : Int) = tAt l i := by simp [rd_T36, tAt]
theorem tAt_get (l : List TRn) (i : Nat) (h : i < l.length) : tAt l i = l[i] := by simp [tAt, List.getD_eq_getElem?_getD, List.getElem?_eq_getElem h]
theorem tAt_mem (l : List TRn) (i : Nat) (h : i < l.length) : tAt l i ∈ l := by rw [tAt_get l i h]; exact List.getElem_mem h
theorem mem_tAt {l : List TRn} {x : TRn} (h : x ∈ l) : ∃ i, i < l.length ∧ tAt l i = x := by
  obtain ⟨i, hi, rfl⟩ := List.mem_iff_getElem.1 h
  exact ⟨i, hi, tAt_get l i hi⟩
def lessT (a b : TRn) : Bool := decide (a.f1 < b.f1) || (decide (a.f1 = b.f1) && (Op.bytesLess a.f0.toList b.f0.toList || (a.f0.toList == b.f0.toList && decide (a.f2 < b.f2))))
def keqT (a b : TRn) : Bool := decide (a.f1 = b.f1) && (a.f0.toList == b.f0.toList && decide (a.f2 = b.f2))
theorem lessT_iff {a b : TRn} : lessT a b = true ↔ a.f1 < b.f1 ∨ a.f1 = b.f1 ∧ (Op.bytesLess a.f0.toList b.f0.toList = true ∨ a.f0.toList = b.f0.toList ∧ a.f2 < b.f2) := by simp [lessT]
theorem keqT_iff {a b : TRn} : keqT a b = true ↔ a.f1 = b.f1 ∧ a.f0.toList = b.f0.toList ∧ a.f2 = b.f2 := by simp [keqT]
theorem lessT_irrefl (a : TRn) : lessT a a = false := by
  cases h : lessT a a with
  | false => rfl
  | true => rw [lessT_iff, bytesLess_irrefl] at h; simp at h
theorem lessT_trans {a b c : TRn} (h : lessT a b = true) (h2 : lessT b c = true) : lessT a c = true := by
  rw [lessT_iff] at h h2 ⊢
  rcases h with h | ⟨e, h⟩ <;> rcases h2 with h2 | ⟨e2, h2⟩
  · exact .inl (by omega)
  · exact .inl (by omega)
  · exact .inl (by omega)
  · refine .inr ⟨by omega, ?_⟩
    rcases h with h | ⟨e3, h⟩ <;> rcases h2 with h2 | ⟨e4, h2⟩
    · exact .inl (bytesLess_trans h h2)
    · exact .inl (by rw [← e4]; exact h)
    · exact .inl (by rw [e3]; exact h2)
    · exact .inr ⟨e3.trans e4, by omega⟩
theorem lessT_tri {a b : TRn} (h : lessT a b = false) (h2 : keqT a b = false) : lessT b a = true := by
  have h' : ¬ (lessT a b = true) := by rw [h]; decide
  have h2' : ¬ (keqT a b = true) := by rw [h2]; decide
  rw [lessT_iff] at h' ⊢
  rw [keqT_iff] at h2'
  by_cases e : a.f1 = b.f1
  · refine .inr ⟨e.symm, ?_⟩
    by_cases e2 : a.f0.toList = b.f0.toList
    · exact .inr ⟨e2.symm, by
        have : ¬ a.f2 < b.f2 := fun h3 => h' (.inr ⟨e, .inr ⟨e2, h3⟩⟩)
        have : ¬ a.f2 = b.f2 := fun h3 => h2' ⟨e, e2, h3⟩
        omega⟩
    · refine .inl ?_
      cases h3 : Op.bytesLess b.f0.toList a.f0.toList with
      | true => rfl
      | false =>
        cases h4 : Op.bytesLess a.f0.toList b.f0.toList with
        | true => exact absurd (.inr ⟨e, .inl h4⟩) h'
        | false => exact absurd (bytesLess_eq_of h4 h3) e2
  · exact .inl (by have : ¬ a.f1 < b.f1 := fun h3 => h' (.inl h3); omega)
def cmpI (a b : Int) : Int := if a < b then -1 else if b < a then 1 else 0
theorem cmpI_ev (a b : Int) : cmp_Compare_int64.f a b = some (cmpI a b) := by
  unfold cmp_Compare_int64.f cmp_isNaN_int64.f cmpI
  simp only [bne_self_eq_false, Option.bind_some, Bool.false_eq_true, if_false]
  split
  · rfl
  · rename_i h
    by_cases h2 : b < a
    · rw [if_pos h2, if_pos h2]
    · rw [if_neg h2, if_neg h2]
theorem cmpS_ev (a b : ByteArray) : cmp_Compare_string.f a b = some (cmpS a.toList b.toList) := by
  unfold cmp_Compare_string.f cmp_isNaN_string.f cmpS
  simp only [bne_self_eq_false, Option.bind_some, Bool.false_eq_true, if_false]
  split
  · rfl
  · split <;> rfl
def orI (x y z : Int) : Int := if x = 0 then (if y = 0 then z else y) else x
theorem or3_ev (x y z : Int) : Ev (fun k => cmp_Or_int.f k [x, y, z]) (orI x y z) := by
  unfold cmp_Or_int.f orI
  refine Ev.step (fun k => cmp_Or_int.l0.eq_2 _ _ _ _ k) (Ev.pos (by simp) (Ev.pos (by decide) (Ev.pos (by simp) ?_)))
  have e0 : rd [x, y, z] 0 = x := rfl
  rw [e0]
  by_cases h : x = 0
  · refine Ev.pos h ?_
    rw [if_pos h, show wrap64 (0 + 1) = 1 from wrap64_of (by decide) (by decide)]
    refine Ev.step (fun k => cmp_Or_int.l0.eq_2 _ _ _ _ k) (Ev.pos (by simp) (Ev.pos (by decide) (Ev.pos (by simp) ?_)))
    have e1 : rd [x, y, z] 1 = y := rfl
    rw [e1]
    by_cases h2 : y = 0
    · refine Ev.pos h2 ?_
      rw [if_pos h2, show wrap64 (1 + 1) = 2 from wrap64_of (by decide) (by decide)]
      refine Ev.step (fun k => cmp_Or_int.l0.eq_2 _ _ _ _ k) (Ev.pos (by simp) (Ev.pos (by decide) (Ev.pos (by simp) ?_)))
      have e2 : rd [x, y, z] 2 = z := rfl
      rw [e2]
      by_cases h3 : z = 0
      · refine Ev.pos h3 ?_
        rw [show wrap64 (2 + 1) = 3 from wrap64_of (by decide) (by decide), h3]
        exact Ev.step (fun k => cmp_Or_int.l0.eq_2 _ _ _ _ k) (Ev.neg (by simp) (Ev.now _))
      · exact Ev.neg h3 (Ev.now _)
    · rw [if_neg h2]
      exact Ev.neg h2 (Ev.now _)
  · rw [if_neg h]
    exact Ev.neg h (Ev.now _)
def cmpT (a b : TRn) : Int := orI (cmpI a.f1 b.f1) (cmpS a.f0.toList b.f0.toList) (cmpI a.f2 b.f2)
theorem cmpT_lt {a b : TRn} : cmpT a b < 0 ↔ lessT a b = true := by
  rw [lessT_iff]
  unfold cmpT orI
  have hs := @cmpS_lt a.f0.toList b.f0.toList
  have hz := @cmpS_zero a.f0.toList b.f0.toList
  by_cases h : a.f1 = b.f1
  · have h0 : cmpI a.f1 b.f1 = 0 := by unfold cmpI; rw [if_neg (by omega), if_neg (by omega)]
    rw [if_pos h0]
    by_cases h2 : a.f0.toList = b.f0.toList
    · rw [if_pos (hz.2 h2)]
      have hb : Op.bytesLess a.f0.toList b.f0.toList = false := by rw [h2, bytesLess_irrefl]
      simp only [h, h2, bytesLess_irrefl, Int.lt_irrefl, true_and, Bool.false_eq_true, false_or]
      unfold cmpI
      split <;> (try split) <;> simp_all <;> omega
    · rw [if_neg (fun e => h2 (hz.1 e)), hs]
      simp [h, h2]
  · have h0 : ¬ cmpI a.f1 b.f1 = 0 := by unfold cmpI; split <;> (try split) <;> omega
    rw [if_neg h0]
    unfold cmpI
    split <;> (try split) <;> simp_all <;> omega
theorem cmpT_ev (a b : TRn) : Ev (fun k => impl_compareTurns.f k a.f0 a.f1 a.f2 b.f0 b.f1 b.f2) (cmpT a b) := by
  unfold impl_compareTurns.f
  simp only [cmpS_ev, cmpI_ev, Option.bind_some]
  exact Ev.bind (or3_ev _ _ _) (Ev.now _)
theorem beforeT_ev (a b : TRn) : spec_l23Before.f a.f0 a.f1 a.f2 b.f0 b.f1 b.f2 = some (lessT a b) := by
  unfold spec_l23Before.f lessT
  by_cases h : a.f1 = b.f1
  · rw [if_pos h]
    by_cases h2 : a.f0.toList = b.f0.toList
    · rw [if_pos h2]; simp [h, h2, bytesLess_irrefl]
    · rw [if_neg h2]; simp [h, h2]
  · rw [if_neg h]; simp [h]
def tvB (t : TRn) : Bool := nameB t.f0 && (decide (0 ≤ t.f1 ∧ t.f1 ≤ 10000) && decide (1 ≤ t.f2 ∧ t.f2 ≤ 10000))
theorem withinT (a b c : Int) : impl_within.f a b c = some (decide (b ≤ a ∧ a ≤ c)) := by
  unfold impl_within.f
  by_cases h : a ≥ b
  · rw [if_pos h]; congr 1; simp; omega
  · rw [if_neg h]; congr 1; simp; omega
theorem inT (a b c : Int) : spec_l00In.f a b c = some (decide (b ≤ a ∧ a ≤ c)) := by
  unfold spec_l00In.f
  by_cases h : a ≥ b
  · rw [if_pos h]; congr 1; simp; omega
  · rw [if_neg h]; congr 1; simp; omega
theorem tv_ev (t : TRn) (h : tvB t = true) : Ev (fun k => impl_Turn_valid.f k t.f0 t.f1 t.f2) true := by
  unfold tvB at h
  simp only [Bool.and_eq_true] at h
  obtain ⟨h1, h2, h3⟩ := h
  unfold impl_Turn_valid.f
  simp only [withinT, h2, h3, Option.bind_some, if_true]
  exact Ev.bind ((implName_ev _).eq h1) (Ev.pos rfl (Ev.now _))
theorem tvs_ev (t : TRn) (h : tvB t = true) : Ev (fun k => spec_l23One.f k t.f0 t.f1 t.f2) true := by
  unfold tvB at h
  simp only [Bool.and_eq_true] at h
  obtain ⟨h1, h2, h3⟩ := h
  unfold spec_l23One.f
  simp only [inT, h2, h3, Option.bind_some, if_true]
  exact Ev.bind ((specName_ev _).eq h1) (Ev.pos rfl (Ev.now _))
structure VT (l : List TRn) : Prop where
  len : l.length ≤ 24
  all : ∀ t ∈ l, tvB t = true
  srt : l.Pairwise (fun a b => lessT a b = true)
theorem VT.lt {l : List TRn} (V : VT l) {i j : Nat} (h : i < j) (hj : j < l.length) : lessT (tAt l i) (tAt l j) = true := by
  rw [tAt_get l i (by omega), tAt_get l j hj]
  exact List.pairwise_iff_getElem.1 V.srt i j (by omega) hj h
theorem VT.at_ {l : List TRn} (V : VT l) {i : Nat} (h : i < l.length) : tvB (tAt l i) = true := V.all _ (tAt_mem l i h)
theorem specTurns_ev (l : List TRn) (V : VT l) : Ev (fun k => spec_ValidTurns.f k l) true := by
  have hl := V.len
  unfold spec_ValidTurns.f
  refine Ev.bind ?_ (Ev.now _)
  unfold spec_l23Ok.f
  refine EvP.ev_of (EvP.up (fun k (_ : Unit) i => spec_l23Ok.l0 k l i) l.length (fun _ _ => True) _ ?_ ?_ () trivial)
  · exact fun _ _ => EvP.step (fun k => spec_l23Ok.l0.eq_2 _ _ k) (EvP.neg (by omega) (EvP.now _ (by simp; omega)))
  · intro i _ hi _ ih
    refine EvP.step (fun k => spec_l23Ok.l0.eq_2 _ _ k) (EvP.pos (by omega) (EvP.pos (by omega) ?_))
    simp only [rdTr]
    refine EvP.ev (tvs_ev _ (V.at_ hi)) (EvP.pos rfl ?_)
    rw [wrap64_up (by omega)]
    refine EvP.ite (fun h0 => ?_) (fun _ => ih () trivial)
    rw [wrap64_dn (by omega) (by omega)]
    refine EvP.pos (by omega) (EvP.pos (by omega) ?_)
    simp only [rdTr]
    refine EvP.opt (beforeT_ev _ _) ?_
    exact EvP.pos (V.lt (by omega) hi) (ih () trivial)
theorem implTurns_ev (l : List TRn) (V : VT l) : Ev (fun k => impl_ValidTurns.f k l) true := by
  have hl := V.len
  unfold impl_ValidTurns.f
  refine Ev.neg (by omega) ?_
  refine EvP.ev_of (EvP.up (fun k (_ : Unit) i => impl_ValidTurns.l0 k l l (l.length : Int) i) l.length (fun _ _ => True) _ ?_ ?_ () trivial)
  · exact fun _ _ => EvP.step (fun k => impl_ValidTurns.l0.eq_2 _ _ _ _ k) (EvP.neg (by omega) (EvP.now _ rfl))
  · intro i _ hi _ ih
    refine EvP.step (fun k => impl_ValidTurns.l0.eq_2 _ _ _ _ k) (EvP.pos (by omega) (EvP.pos (by omega) (EvP.pos (by omega) ?_)))
    simp only [rdTr]
    refine EvP.ev (tv_ev _ (V.at_ hi)) (EvP.pos rfl ?_)
    rw [wrap64_up (by omega)]
    refine EvP.ite (fun h0 => ?_) (fun _ => ih () trivial)
    rw [wrap64_dn (by omega) (by omega)]
    refine EvP.pos (by omega) (EvP.pos (by omega) ?_)
    simp only [rdTr]
    refine EvP.ev (cmpT_ev _ _) ?_
    have := cmpT_lt.2 (V.lt (i := i - 1) (j := i) (by omega) hi)
    exact EvP.neg (by omega) (ih () trivial)
def posT : List TRn → TRn → Nat
  | [], _ => 0
  | x :: t, b => if lessT x b = true then posT t b + 1 else 0
theorem posT_le (l : List TRn) (b : TRn) : posT l b ≤ l.length := by
  induction l with
  | nil => simp [posT]
  | cons x t ih => simp only [posT, List.length_cons]; split <;> omega
theorem less_posT {l : List TRn} {b : TRn} (h : l.Pairwise (fun a b => lessT a b = true)) : ∀ i, i < l.length → (lessT (tAt l i) b = true ↔ i < posT l b) := by
  induction l with
  | nil => intro i hi; simp at hi
  | cons x t ih =>
    obtain ⟨h1, h2⟩ := List.pairwise_cons.1 h
    intro i hi
    cases i with
    | zero =>
      have : tAt (x :: t) 0 = x := rfl
      rw [this]
      simp only [posT]
      split <;> simp_all
    | succ i =>
      have e : tAt (x :: t) (i + 1) = tAt t i := by simp [tAt]
      have hi' : i < t.length := by simpa using hi
      rw [e, ih h2 i hi']
      simp only [posT]
      split
      · omega
      · rename_i h3
        constructor
        · intro h4
          exact absurd (lessT_trans (h1 _ (tAt_mem t i hi')) ((ih h2 i hi').2 h4)) h3
        · intro h4; omega
theorem put_srt {l : List TRn} {b : TRn} (j : Nat) (hj : j ≤ l.length) (h : l.Pairwise (fun a b => lessT a b = true)) (h1 : ∀ i, i < j → lessT (tAt l i) b = true) (h2 : ∀ i, j ≤ i → i < l.length → lessT b (tAt l i) = true) : (l.take j ++ b :: l.drop j).Pairwise (fun a b => lessT a b = true) := by
  rw [List.pairwise_append]
  refine ⟨h.sublist (List.take_sublist _ _), List.pairwise_cons.2 ⟨fun y hy => ?_, h.sublist (List.drop_sublist _ _)⟩, fun x hx y hy => ?_⟩
  · obtain ⟨i, hi, rfl⟩ := List.mem_iff_getElem.1 hy
    rw [List.getElem_drop]
    have hi' : j + i < l.length := by rw [List.length_drop] at hi; omega
    rw [← tAt_get l (j + i) hi']
    exact h2 _ (by omega) hi'
  · obtain ⟨i, hi, rfl⟩ := List.mem_iff_getElem.1 hx
    rw [List.length_take] at hi
    have hxl : lessT (l.take j)[i] b = true := by
      rw [List.getElem_take, ← tAt_get l i (by omega)]
      exact h1 i (by omega)
    rcases List.mem_cons.1 hy with rfl | hy
    · exact hxl
    · obtain ⟨q, hq, rfl⟩ := List.mem_iff_getElem.1 hy
      rw [List.getElem_drop]
      have hq' : j + q < l.length := by rw [List.length_drop] at hq; omega
      rw [← tAt_get l (j + q) hq']
      exact lessT_trans hxl (h2 _ (by omega) hq')
theorem mem_put {l : List TRn} {b x : TRn} {j : Nat} : x ∈ l.take j ++ b :: l.drop j ↔ x = b ∨ x ∈ l := by
  rw [List.mem_append, List.mem_cons]
  constructor
  · rintro (h | h | h)
    · exact .inr (List.mem_of_mem_take h)
    · exact .inl h
    · exact .inr (List.mem_of_mem_drop h)
  · rintro (h | h)
    · exact .inr (.inl h)
    · rw [← List.take_append_drop j l, List.mem_append] at h
      exact h.imp id .inr
theorem searchT_ev (l : List TRn) (b : TRn) (hl : l.length ≤ 1000000) (h : l.Pairwise (fun a b => lessT a b = true)) : EvP (fun k => impl_Turn_48_at_impl_compareTurns.f k l b.f0 b.f1 b.f2) (fun r => r.1 = (posT l b : Int)) := by
  unfold impl_Turn_48_at_impl_compareTurns.f
  have hp := posT_le l b
  have key : ∀ (d i j : Nat), i + d = j → i ≤ posT l b → posT l b ≤ j → j ≤ l.length → EvP (fun k => impl_Turn_48_at_impl_compareTurns.l0 k l (l.length : Int) (i : Int) (j : Int) b.f0 b.f1 b.f2) (fun r => r.1 = (posT l b : Int)) := by
    intro d
    induction d using Nat.strongRecOn with
    | _ d ih =>
    intro i j hd h1 h2 h3
    refine EvP.step (fun k => impl_Turn_48_at_impl_compareTurns.l0.eq_2 _ _ _ _ _ _ _ k) ?_
    by_cases hij : i < j
    · refine EvP.pos (by omega) ?_
      have hm : wrap64 ((IntKind.u64.wrap (wrap64 ((i : Int) + (j : Int)))) / 2) = (((i + j) / 2 : Nat) : Int) := by
        rw [wrap64_of (x := (i : Int) + j) (by omega) (by omega)]
        have : IntKind.u64.wrap ((i : Int) + j) = (i : Int) + j := by simp [IntKind.wrap, IntKind.bits, IntKind.signed]; omega
        rw [this, wrap64_of (by omega) (by omega)]
        omega
      rw [hm]
      refine EvP.pos (by omega) (EvP.pos (by omega) ?_)
      simp only [rdTr]
      refine EvP.ev (cmpT_ev _ _) ?_
      have hless := less_posT (b := b) h ((i + j) / 2) (by omega)
      by_cases hc : cmpT (tAt l ((i + j) / 2)) b < 0
      · refine EvP.pos hc ?_
        have := hless.1 (cmpT_lt.1 hc)
        rw [wrap64_up (by omega)]
        exact ih (j - ((i + j) / 2 + 1)) (by omega) _ _ (by omega) (by omega) h2 h3
      · refine EvP.neg hc ?_
        have : ¬ (i + j) / 2 < posT l b := fun h5 => hc (cmpT_lt.2 (hless.2 h5))
        exact ih ((i + j) / 2 - i) (by omega) _ _ (by omega) h1 (by omega) (by omega)
    · refine EvP.neg (by omega) ?_
      have e : i = posT l b := by omega
      subst e
      refine EvP.ite (fun h4 => ?_) (fun _ => EvP.now _ rfl)
      refine EvP.pos (by omega) (EvP.pos (by omega) ?_)
      simp only [rdTr]
      exact EvP.ev (cmpT_ev _ _) (EvP.now _ rfl)
  exact key l.length 0 l.length (by omega) (by omega) hp (Nat.le_refl _)
end Go.Proofs.Ytcgkmdmbjffipaa.P
namespace Go.Proofs.Ytcgkmdmbjffipaa.P
open Go.RowKit Go.Proofs.YtcgkmdmbjffipaaW.PrintWords Go.Proofs.YtcgkmdmbjffipaaW.PrintLast Go.Proofs.YtcgkmdmbjffipaaW.PrintMore
set_option linter.unusedVariables false
set_option linter.unusedSimpArgs false
def Bys (c : List Int) : Prop := ∀ x ∈ c, 0 ≤ x ∧ x ≤ 255
/-- The place p is within n steps of the beginning. -/
def At (p : Int) (n : Nat) : Prop := 0 ≤ p ∧ p ≤ (n : Int) ∧ n ≤ 4000000000000000000
theorem rd_bys {c : List Int} (hc : Bys c) (i : Int) : 0 ≤ rd c i ∧ rd c i ≤ 255 := by
  unfold rd
  by_cases h : i.toNat < c.length
  · have : c.getD i.toNat 0 = c[i.toNat] := by simp [List.getD_eq_getElem?_getD, List.getElem?_eq_getElem h]
    rw [this]
    exact hc _ (List.getElem_mem h)
  · have : c.getD i.toNat 0 = 0 := by simp [List.getD_eq_getElem?_getD, List.getElem?_eq_none (Nat.le_of_not_lt h)]
    rw [this]
    omega
theorem u64_wrap (n : Int) : IntKind.u64.wrap n = n % 18446744073709551616 := by simp [IntKind.wrap, IntKind.bits, IntKind.signed]
theorem and255 (y : Int) : 0 ≤ Go.bits .and .u64 (IntKind.u64.wrap y / 1099511627776) 255 ∧ Go.bits .and .u64 (IntKind.u64.wrap y / 1099511627776) 255 ≤ 255 := by
  have h := u64_wrap y
  have e : Go.bits .and .u64 (IntKind.u64.wrap y / 1099511627776) 255 = (IntKind.u64.wrap y / 1099511627776) % 256 :=
    bits_mask .u64 64 (by decide) (fun n h0 h1 => by rw [u64_wrap]; omega) 8 (by decide) _ (by omega) (by omega)
  rw [e]
  omega
theorem next_ev {c : List Int} (hc : Bys c) {p : Int} {n : Nat} (hp : At p n) (hn : n + 1 ≤ 4000000000000000000) (s : Int) : ∃ v s', spec_l00Src_next.f c p s = some (v, p + 1, s') ∧ 0 ≤ v ∧ v ≤ 255 := by
  obtain ⟨h0, h1, h2⟩ := hp
  unfold spec_l00Src_next.f
  have hw : wrap64 (p + 1) = p + 1 := wrap64_of (by omega) (by omega)
  have hb := rd_bys hc p
  by_cases h : p < (c.length : Int)
  · rw [if_pos h, if_pos h0, hw, if_pos (by omega)]
    exact ⟨_, _, rfl, by rw [wrap64_of (by omega) (by omega)]; omega, by rw [wrap64_of (by omega) (by omega)]; omega⟩
  · rw [if_neg h, hw, if_neg (by omega)]
    have := and255 (IntKind.u64.wrap (IntKind.u64.wrap (s * 6364136223846793005)) + 1442695040888963407)
    exact ⟨_, _, rfl, by rw [wrap64_of (by omega) (by omega)]; omega, by rw [wrap64_of (by omega) (by omega)]; omega⟩
theorem tmod_in {x a : Int} (hx : 0 ≤ x) (ha : 0 < a) : 0 ≤ Int.tmod x a ∧ Int.tmod x a < a := by
  rw [Int.tmod_eq_emod_of_nonneg hx]
  exact ⟨Int.emod_nonneg _ (by omega), Int.emod_lt_of_pos _ ha⟩
theorem pick_ev {c : List Int} (hc : Bys c) {p : Int} {n : Nat} (hp : At p n) (hn : n + 2 ≤ 4000000000000000000) (s a : Int) : ∃ v p' s', spec_l00Src_pick.f c p s a = some (v, p', s') ∧ At p' (n + 2) ∧ 0 ≤ v ∧ (v < a ∨ v = 0) := by
  unfold spec_l00Src_pick.f
  have hp0 := hp
  obtain ⟨h0, h1, h2⟩ := hp
  by_cases h : a ≤ 1
  · rw [if_pos h]
    exact ⟨0, p, s, rfl, ⟨h0, by omega, by omega⟩, by omega, .inr rfl⟩
  · rw [if_neg h]
    obtain ⟨v, s1, e1, v0, v1⟩ := next_ev hc hp0 (by omega) s
    rw [e1, Option.bind_some]
    by_cases h3 : a > 200
    · rw [if_pos h3]
      obtain ⟨u, s2, e2, u0, u1⟩ := next_ev hc (p := p + 1) (n := n + 1) ⟨by omega, by omega, by omega⟩ (by omega) s1
      rw [e2, Option.bind_some, if_neg (by omega)]
      have hw : wrap64 (wrap64 (v * 256) + u) = v * 256 + u := by rw [wrap64_of (x := v * 256) (by omega) (by omega), wrap64_of (by omega) (by omega)]
      rw [hw]
      have := tmod_in (x := v * 256 + u) (a := a) (by omega) (by omega)
      exact ⟨_, p + 1 + 1, s2, rfl, ⟨by omega, by omega, by omega⟩, this.1, .inl this.2⟩
    · rw [if_neg h3, if_neg (by omega)]
      have := tmod_in (x := v) (a := a) (by omega) (by omega)
      exact ⟨_, p + 1, s1, rfl, ⟨by omega, by omega, by omega⟩, this.1, .inl this.2⟩
theorem rdOf_mem {l : List ByteArray} {v : Int} (h0 : 0 ≤ v) (h : v < (l.length : Int)) : rdOf ByteArray.empty l v ∈ l := by
  have hlt : v.toNat < l.length := by omega
  have : rdOf ByteArray.empty l v = l[v.toNat] := by simp [rdOf, List.getD_eq_getElem?_getD, List.getElem?_eq_getElem hlt]
  rw [this]
  exact List.getElem_mem hlt
theorem pick_lt {c : List Int} (hc : Bys c) {p : Int} {n : Nat} (hp : At p n) (hn : n + 2 ≤ 4000000000000000000) (s a : Int) (ha : 0 < a) : ∃ v p' s', spec_l00Src_pick.f c p s a = some (v, p', s') ∧ At p' (n + 2) ∧ 0 ≤ v ∧ v < a := by
  obtain ⟨v, p', s', e, h1, h2, h3⟩ := pick_ev hc hp hn s a
  exact ⟨v, p', s', e, h1, h2, h3.elim id (fun h => by omega)⟩
theorem At.more {p : Int} {n m : Nat} (h : At p n) (hm : n ≤ m) (hl : m ≤ 4000000000000000000) : At p m := ⟨h.1, by have := h.2.1; omega, hl⟩
theorem text_ev {c : List Int} (hc : Bys c) {p : Int} {n : Nat} (hp : At p n) (hn : n + 2 ≤ 4000000000000000000) (s : Int) (l : List ByteArray) (hl : 0 < l.length) : ∃ v p' s', spec_l00Src_text.f c p s l = some (v, p', s') ∧ At p' (n + 2) ∧ v ∈ l := by
  obtain ⟨v, p', s', e, h1, h2, h3⟩ := pick_lt hc hp hn s (l.length : Int) (by omega)
  unfold spec_l00Src_text.f
  rw [e, Option.bind_some, if_pos h2, if_pos h3]
  exact ⟨_, p', s', rfl, h1, rdOf_mem h2 h3⟩
end Go.Proofs.Ytcgkmdmbjffipaa.P
namespace Go.Proofs.Ytcgkmdmbjffipaa.P
open Go.RowKit Go.Proofs.YtcgkmdmbjffipaaW.PrintWords Go.Proofs.YtcgkmdmbjffipaaW.PrintLast Go.Proofs.YtcgkmdmbjffipaaW.PrintMore
set_option linter.unusedVariables false
set_option linter.unusedSimpArgs false
abbrev ARn := S38
def aAt (l : List ARn) (i : Nat) : ARn := l.getD i z38
theorem rdAn (l : List ARn) (i : Nat) : rd_T38 l (i : Int) = aAt l i := by simp [rd_T38, aAt]
theorem aAt_get (l : List ARn) (i : Nat) (h : i < l.length) : aAt l i = l[i] := by simp [aAt, List.getD_eq_getElem?_getD, List.getElem?_eq_getElem h]
theorem aAt_mem (l : List ARn) (i : Nat) (h : i < l.length) : aAt l i ∈ l := by rw [aAt_get l i h]; exact List.getElem_mem h
def okT (t : TRn) : Prop := nameB t.f0 = true ∧ 0 ≤ t.f1 ∧ t.f1 ≤ 76 ∧ 4 ≤ t.f2 ∧ t.f2 ≤ 20
def okA (a : ARn) : Prop := nameB a.f0 = true ∧ nameB a.f1 = true ∧ 0 ≤ a.f2 ∧ a.f2 ≤ 8
structure DT (l : List TRn) : Prop where
  len : l.length ≤ 6
  all : ∀ t ∈ l, okT t
  srt : l.Pairwise (fun a b => lessT a b = true)
structure DA (l : List ARn) : Prop where
  len : l.length ≤ 2
  all : ∀ a ∈ l, okA a
theorem tvB_of {t : TRn} (h : okT t) : tvB t = true := by
  obtain ⟨h1, h2, h3, h4, h5⟩ := h
  unfold tvB
  rw [h1, decide_eq_true (show 0 ≤ t.f1 ∧ t.f1 ≤ 10000 by omega), decide_eq_true (show 1 ≤ t.f2 ∧ t.f2 ≤ 10000 by omega)]
  rfl
theorem DT.vt {l : List TRn} (D : DT l) : VT l := ⟨by have := D.len; omega, fun t ht => tvB_of (D.all t ht), D.srt⟩
theorem DT.at_ {l : List TRn} (D : DT l) {i : Nat} (h : i < l.length) : okT (tAt l i) := D.all _ (tAt_mem l i h)
theorem player_ev {c : List Int} (hc : Bys c) {p : Int} {n : Nat} (hp : At p n) (hn : n + 2 ≤ 4000000000000000000) (s : Int) : ∃ v p' s', spec_l23Player.f c p s = some (v, p', s') ∧ At p' (n + 2) ∧ nameB v = true := by
  unfold spec_l23Player.f
  obtain ⟨v, p', s', e, h1, h2⟩ := text_ev hc hp hn s [(⟨#[100, 114, 111, 110, 101]⟩ : ByteArray), (⟨#[100, 114, 117, 109]⟩ : ByteArray), (⟨#[102, 108, 117, 116, 101]⟩ : ByteArray)] (by decide)
  rw [e, Option.bind_some]
  refine ⟨v, p', s', rfl, h1, ?_⟩
  simp only [List.mem_cons, List.not_mem_nil, or_false] at h2
  rcases h2 with rfl | rfl | rfl <;> decide +kernel
theorem keqT_symm {a b : TRn} (h : keqT a b = false) : keqT b a = false := by
  cases h2 : keqT b a with
  | false => rfl
  | true =>
    rw [keqT_iff] at h2
    have : keqT a b = true := keqT_iff.2 ⟨h2.1.symm, h2.2.1.symm, h2.2.2.symm⟩
    rw [this] at h
    cases h
theorem put_ev (l : List TRn) (b : TRn) (hl : l.length ≤ 1000) (hs : l.Pairwise (fun a b => lessT a b = true)) (hne : ∀ i, i < l.length → keqT b (tAt l i) = false) :
    EvP (fun k => spec_l23Put.f k l b.f0 b.f1 b.f2) (fun r => r.length = l.length + 1 ∧ r.Pairwise (fun a b => lessT a b = true) ∧ ∀ x, x ∈ r ↔ x = b ∨ x ∈ l) := by
  unfold spec_l23Put.f
  have fin : ∀ j : Nat, j ≤ l.length → (∀ i, i < j → lessT (tAt l i) b = true) → (∀ i, j ≤ i → i < l.length → lessT b (tAt l i) = true) →
      ((([] ++ l.take ((j : Int)).toNat) ++ [(⟨b.f0, b.f1, b.f2⟩ : S36)]) ++ l.drop ((j : Int)).toNat).length = l.length + 1 ∧ ((([] ++ l.take ((j : Int)).toNat) ++ [(⟨b.f0, b.f1, b.f2⟩ : S36)]) ++ l.drop ((j : Int)).toNat).Pairwise (fun a b => lessT a b = true) ∧ ∀ x, x ∈ ((([] ++ l.take ((j : Int)).toNat) ++ [(⟨b.f0, b.f1, b.f2⟩ : S36)]) ++ l.drop ((j : Int)).toNat) ↔ x = b ∨ x ∈ l := by
    intro j hj h1 h2
    have e : ((([] ++ l.take ((j : Int)).toNat) ++ [(⟨b.f0, b.f1, b.f2⟩ : S36)]) ++ l.drop ((j : Int)).toNat) = l.take j ++ b :: l.drop j := by simp
    rw [e]
    refine ⟨by simp; omega, put_srt j hj hs h1 h2, fun x => mem_put⟩
  refine EvP.down (fun k (_ : Unit) i => spec_l23Put.l0 k l i b.f0 b.f1 b.f2) (fun _ j => j ≤ l.length ∧ ∀ i, j ≤ i → i < l.length → lessT b (tAt l i) = true) _ ?_ ?_ l.length () ⟨Nat.le_refl _, fun i h1 h2 => by omega⟩
  · intro _ ⟨hj, h2⟩
    refine EvP.step (fun k => spec_l23Put.l0.eq_2 _ _ _ _ _ k) (EvP.neg (by decide) ?_)
    simp only [Option.bind_some]
    refine EvP.pos (by decide) (EvP.pos (by omega) (EvP.pos (by simp) (EvP.pos (by simp) (EvP.pos (by simp; omega) (EvP.now _ ?_)))))
    exact fin 0 (by omega) (fun i h => by omega) h2
  · intro j _ ⟨hj, h2⟩ ih
    refine EvP.step (fun k => spec_l23Put.l0.eq_2 _ _ _ _ _ k) (EvP.pos (by omega) ?_)
    rw [wrap64_dn (by omega) (by omega), Nat.add_sub_cancel]
    refine EvP.pos (by omega) (EvP.pos (by omega) ?_)
    rw [rdTr]
    refine EvP.opt (beforeT_ev b (tAt l j)) ?_
    refine EvP.ite (fun h => ?_) (fun h => ?_)
    · refine ih () ⟨by omega, fun i h3 h4 => ?_⟩
      by_cases e : i = j
      · subst e; exact h
      · exact h2 i (by omega) h4
    · have hb : lessT (tAt l j) b = true := lessT_tri (by simpa using h) (hne j (by omega))
      simp only [Option.bind_some]
      refine EvP.pos (by omega) (EvP.pos (by omega) (EvP.pos (by simp; omega) (EvP.pos (by simp; omega) (EvP.pos (by simp; omega) (EvP.now _ ?_)))))
      refine fin (j + 1) hj (fun i hi => ?_) h2
      by_cases e : i = j
      · subst e; exact hb
      · refine lessT_trans ?_ hb
        rw [tAt_get l i (by omega), tAt_get l j (by omega)]
        exact List.pairwise_iff_getElem.1 hs i j (by omega) (by omega) (by omega)
theorem drawT_ev {c : List Int} (hc : Bys c) : EvP (fun k => spec_R8Turns.f k c) DT := by
  unfold spec_R8Turns.f spec_l00From.f
  refine EvP.opt rfl (EvP.bind (P := fun r => DT r.1) ?_ (fun r h => EvP.now _ h))
  unfold spec_l23Draw.f
  have h0 : At (0 : Int) 0 := ⟨by omega, by omega, by omega⟩
  obtain ⟨v, p', s', e, h1, h2, h3⟩ := pick_lt hc h0 (by omega) 0 7 (by omega)
  refine EvP.opt e ?_
  obtain ⟨m, rfl⟩ : ∃ m : Nat, v = m := ⟨v.toNat, by omega⟩
  refine EvP.down (fun k (t : List TRn × Int × Int) i => spec_l23Draw.l0 k t.1 i c t.2.1 t.2.2) (fun t i => t.1.length + i ≤ 6 ∧ (∀ x ∈ t.1, okT x) ∧ t.1.Pairwise (fun a b => lessT a b = true) ∧ At t.2.1 (100 - 6 * i)) _ ?_ ?_ m ([], p', s') ⟨by simp; omega, by simp, by simp, h1.more (by omega) (by omega)⟩
  · rintro ⟨l, q, t⟩ ⟨g1, g2, g3, g4⟩
    exact EvP.step (fun k => spec_l23Draw.l0.eq_2 _ _ _ _ _ k) (EvP.neg (by decide) (EvP.now _ ⟨by simpa using g1, g2, g3⟩))
  · rintro i ⟨l, q, t⟩ ⟨g1, g2, g3, g4⟩ ih
    dsimp only at g1 g2 g3 g4 ⊢
    obtain ⟨nm, q1, t1, e1, a1, a2⟩ := player_ev hc g4 (by omega) t
    obtain ⟨v2, q2, t2, e2, b1, b2, b3⟩ := pick_lt hc a1 (by omega) t1 20 (by omega)
    obtain ⟨v3, q3, t3, e3, c1, c2, c3⟩ := pick_lt hc b1 (by omega) t2 5 (by omega)
    refine EvP.step (fun k => spec_l23Draw.l0.eq_2 _ _ _ _ _ k) (EvP.pos (by omega) (EvP.opt e1 (EvP.opt e2 (EvP.opt e3 ?_))))
    have w1 : wrap64 (4 * v2) = 4 * v2 := wrap64_of (by omega) (by omega)
    have w2 : wrap64 (4 + wrap64 (4 * v3)) = 4 + 4 * v3 := by rw [wrap64_of (x := 4 * v3) (by omega) (by omega), wrap64_of (by omega) (by omega)]
    dsimp only
    rw [w1, w2]
    obtain ⟨b, hb⟩ : ∃ b : TRn, b = ⟨nm, 4 * v2, 4 + 4 * v3⟩ := ⟨_, rfl⟩
    have hbo : okT b := by rw [hb]; exact ⟨a2, by dsimp only; omega, by dsimp only; omega, by dsimp only; omega, by dsimp only; omega⟩
    have k1 := c1.more (m := 100 - 6 * i) (by omega) (by omega)
    have e0 : nm = b.f0 := by rw [hb]
    have e4 : 4 * v2 = b.f1 := by rw [hb]
    have e5 : 4 + 4 * v3 = b.f2 := by rw [hb]
    rw [e0, e4, e5]
    refine EvP.up (fun k (z : Bool) y => spec_l23Draw.l1 k l ((i + 1 : Nat) : Int) z y c q3 t3 b.f0 b.f1 b.f2) l.length (fun z y => z = true ∨ ∀ j, j < y → keqT (tAt l j) b = false) _ ?_ ?_ false (.inr fun j h => by omega)
    · rintro z hz
      refine EvP.step (fun k => spec_l23Draw.l1.eq_2 _ _ _ _ _ _ _ _ _ _ k) (EvP.neg (by omega) ?_)
      rw [wrap64_dn (by omega) (by omega), Nat.add_sub_cancel]
      refine EvP.ite (fun h => ?_) (fun h => ?_)
      · exact ih (l, q3, t3) ⟨by dsimp only; omega, g2, g3, k1⟩
      · have hz' := hz.resolve_left h
        refine EvP.bind (put_ev l b (by omega) g3 (fun j hj => keqT_symm (hz' j hj))) (fun r ⟨r1, r2, r3⟩ => ?_)
        refine ih (r, q3, t3) ⟨by dsimp only; omega, fun x hx => ?_, r2, k1⟩
        rcases (r3 x).1 hx with rfl | hx
        · exact hbo
        · exact g2 x hx
    · intro y z hy hz ih2
      refine EvP.step (fun k => spec_l23Draw.l1.eq_2 _ _ _ _ _ _ _ _ _ _ k) (EvP.pos (by omega) ?_)
      rw [wrap64_up (by omega)]
      refine EvP.ite (fun h => ih2 true (.inl rfl)) (fun h => ?_)
      refine EvP.pos (by omega) ?_
      rw [rdTr]
      refine ih2 _ ?_
      have hz' := hz.resolve_left h
      cases h9 : keqT (tAt l y) b with
      | true => 
        left
        rw [keqT_iff] at h9
        simp [h9.1, h9.2.1, h9.2.2]
      | false =>
        right
        intro j hj
        by_cases e : j = y
        · subst e; exact h9
        · exact hz' j (by omega)
theorem drawA_ev {c : List Int} (hc : Bys c) : EvP (fun k => spec_R8Answers.f k c) DA := by
  unfold spec_R8Answers.f spec_l00From.f
  refine EvP.opt rfl ?_
  have h0 : At (0 : Int) 0 := ⟨by omega, by omega, by omega⟩
  obtain ⟨v, p', s', e, h1, h2, h3⟩ := pick_lt hc h0 (by omega) 0 3 (by omega)
  refine EvP.opt e ?_
  obtain ⟨m, rfl⟩ : ∃ m : Nat, v = m := ⟨v.toNat, by omega⟩
  refine EvP.down (fun k (t : List ARn × Int × Int) i => spec_R8Answers.l0 k t.1 i c t.2.1 t.2.2) (fun t i => t.1.length + i ≤ 2 ∧ (∀ x ∈ t.1, okA x) ∧ At t.2.1 (100 - 6 * i)) _ ?_ ?_ m ([], p', s') ⟨by simp; omega, by simp, h1.more (by omega) (by omega)⟩
  · rintro ⟨l, q, t⟩ ⟨g1, g2, g4⟩
    exact EvP.step (fun k => spec_R8Answers.l0.eq_2 _ _ _ _ _ k) (EvP.neg (by decide) (EvP.now _ ⟨by simpa using g1, g2⟩))
  · rintro i ⟨l, q, t⟩ ⟨g1, g2, g4⟩ ih
    dsimp only at g1 g2 g4 ⊢
    obtain ⟨nm, q1, t1, e1, a1, a2⟩ := player_ev hc g4 (by omega) t
    obtain ⟨nm2, q2, t2, e2, b1, b2⟩ := player_ev hc a1 (by omega) t1
    obtain ⟨v3, q3, t3, e3, c1, c2, c3⟩ := pick_lt hc b1 (by omega) t2 3 (by omega)
    refine EvP.step (fun k => spec_R8Answers.l0.eq_2 _ _ _ _ _ k) (EvP.pos (by omega) (EvP.opt e1 (EvP.opt e2 (EvP.opt e3 (EvP.pos (by omega) ?_)))))
    dsimp only
    rw [wrap64_dn (by omega) (by omega), Nat.add_sub_cancel, wrap64_of (x := 4 * v3) (by omega) (by omega)]
    refine ih (l ++ [⟨nm, nm2, 4 * v3⟩], q3, t3) ⟨by simp; omega, fun x hx => ?_, c1.more (by omega) (by omega)⟩
    rcases List.mem_append.1 hx with hx | hx
    · exact g2 x hx
    · rw [List.mem_singleton] at hx
      subst hx
      exact ⟨a2, b2, by dsimp only; omega, by dsimp only; omega⟩
end Go.Proofs.Ytcgkmdmbjffipaa.P
namespace Go.Proofs.Ytcgkmdmbjffipaa.P
open Go.RowKit Go.Proofs.YtcgkmdmbjffipaaW.PrintWords Go.Proofs.YtcgkmdmbjffipaaW.PrintLast Go.Proofs.YtcgkmdmbjffipaaW.PrintMore
set_option linter.unusedVariables false
set_option linter.unusedSimpArgs false
def hits (l : List TRn) (nm : ByteArray) (t : Int) : Prop := ∃ x ∈ l, x.f0.toList = nm.toList ∧ x.f1 = t
theorem begins_ev (l : List TRn) (hl : l.length ≤ 1000000) (nm : ByteArray) (t : Int) : EvP (fun k => impl_begins.f k l nm t) (fun r => r = true ↔ hits l nm t) := by
  unfold impl_begins.f impl_Turn_53_at_impl_begins_1.f impl_Turn_104_at_impl_begins_1.f
  refine EvP.bind (P := fun r => r = true ↔ hits l nm t) (EvP.bind (P := fun r => 0 ≤ r ↔ hits l nm t) ?_ (fun r h => EvP.now _ (by simpa using h))) (fun r h => EvP.now _ h)
  refine EvP.up (fun k (_ : Unit) i => impl_Turn_104_at_impl_begins_1.l0 k l (l.length : Int) i nm t) l.length (fun _ i => ∀ j, j < i → ¬ ((tAt l j).f0.toList = nm.toList ∧ (tAt l j).f1 = t)) _ ?_ ?_ () (fun j h => by omega)
  · intro _ h
    refine EvP.step (fun k => impl_Turn_104_at_impl_begins_1.l0.eq_2 _ _ _ _ _ k) (EvP.neg (by omega) (EvP.now _ ⟨fun h => absurd h (by decide), ?_⟩))
    rintro ⟨x, hx, hx2⟩
    obtain ⟨j, hj, rfl⟩ := mem_tAt hx
    exact absurd hx2 (h j hj)
  · intro i _ hi h ih
    refine EvP.step (fun k => impl_Turn_104_at_impl_begins_1.l0.eq_2 _ _ _ _ _ k) (EvP.pos (by omega) (EvP.pos (by omega) (EvP.pos (by omega) ?_)))
    rw [rdTr]
    have e : impl_begins_1.f (tAt l i).f0 (tAt l i).f1 (tAt l i).f2 nm t = some (decide ((tAt l i).f0.toList = nm.toList ∧ (tAt l i).f1 = t)) := by
      unfold impl_begins_1.f
      by_cases h : (tAt l i).f0.toList = nm.toList
      · rw [if_pos h]; simp [h]; exact Bool.beq_eq_decide_eq _ _
      · rw [if_neg h]; simp [h]
    refine EvP.opt e (EvP.ite (fun h2 => EvP.now _ ?_) (fun h2 => ?_))
    · exact ⟨fun _ => ⟨_, tAt_mem l i hi, of_decide_eq_true h2⟩, fun _ => by omega⟩
    · rw [wrap64_up (by omega)]
      refine ih () (fun j hj => ?_)
      by_cases e : j = i
      · subst e; exact fun h3 => h2 (decide_eq_true h3)
      · exact h j (by omega)
theorem answersOk_ev (l : List ARn) (D : DA l) : Ev (fun k => impl_answersOk.f k l) true := by
  have hl := D.len
  unfold impl_answersOk.f impl_Answer_94_at_impl_answersOk_1.f impl_Answer_124_at_impl_answersOk_1.f
  refine Ev.pos (by omega) (EvP.ev_of ?_)
  refine EvP.bind (P := fun r => r = false) (EvP.bind (P := fun r => r = -1) ?_ (fun r h => EvP.now _ (by rw [h]; decide))) (fun r h => EvP.now _ (by rw [h]; rfl))
  refine EvP.up (fun k (_ : Unit) i => impl_Answer_124_at_impl_answersOk_1.l0 k l (l.length : Int) i) l.length (fun _ _ => True) _ ?_ ?_ () trivial
  · intro _ _
    exact EvP.step (fun k => impl_Answer_124_at_impl_answersOk_1.l0.eq_2 _ _ _ k) (EvP.neg (by omega) (EvP.now _ rfl))
  · intro i _ hi _ ih
    refine EvP.step (fun k => impl_Answer_124_at_impl_answersOk_1.l0.eq_2 _ _ _ k) (EvP.pos (by omega) (EvP.pos (by omega) (EvP.pos (by omega) ?_)))
    rw [rdAn]
    obtain ⟨h1, h2, h3, h4⟩ := D.all _ (aAt_mem l i hi)
    have e : Ev (fun k => impl_answersOk_1.f k (aAt l i).f0 (aAt l i).f1 (aAt l i).f2) false := by
      unfold impl_answersOk_1.f
      refine Ev.bind ((implName_ev _).eq h1) (Ev.pos rfl (Ev.bind ((implName_ev _).eq h2) (Ev.pos rfl (Ev.opt (withinT _ _ _) ?_))))
      rw [decide_eq_true (show 0 ≤ (aAt l i).f2 ∧ (aAt l i).f2 ≤ 10000 by omega)]
      exact Ev.now _
    refine EvP.ev e (EvP.neg (by decide) ?_)
    rw [wrap64_up (by omega)]
    exact ih () trivial
/-- A pair of an answer's place and a turn's place, the turn being by the one that is answered. -/
def pairOk (l : List TRn) (av : List ARn) (e : List Int) : Prop := ∃ i j : Nat, e = [(i : Int), (j : Int)] ∧ i < av.length ∧ j < l.length ∧ (tAt l j).f0.toList = (aAt av i).f0.toList
theorem missed_ev (l : List TRn) (av : List ARn) (D : DT l) (A : DA av) : EvP (fun k => impl_missed.f k l av) (fun r => r.length ≤ 12 ∧ ∀ e ∈ r, pairOk l av e) := by
  have hl := D.len
  have ha := A.len
  unfold impl_missed.f
  refine EvP.up (fun k (s : List (List Int)) i => impl_missed.l0 k l s av (av.length : Int) i) av.length (fun s i => s.length ≤ 6 * i ∧ ∀ e ∈ s, pairOk l av e) _ ?_ ?_ [] ⟨by simp, by simp⟩
  · intro s ⟨h1, h2⟩
    exact EvP.step (fun k => impl_missed.l0.eq_2 _ _ _ _ _ k) (EvP.neg (by omega) (EvP.now _ ⟨by omega, h2⟩))
  · intro i s hi ⟨h1, h2⟩ ih
    refine EvP.step (fun k => impl_missed.l0.eq_2 _ _ _ _ _ k) (EvP.pos (by omega) (EvP.pos (by omega) (EvP.pos (by omega) ?_)))
    rw [rdAn]
    refine EvP.up (fun k (z : List (List Int)) j => impl_missed.l1 k l z (i : Int) av (av.length : Int) (i : Int) l (l.length : Int) j (aAt av i).f0 (aAt av i).f1 (aAt av i).f2) l.length (fun z j => z.length ≤ 6 * i + j ∧ ∀ e ∈ z, pairOk l av e) _ ?_ ?_ s ⟨by omega, h2⟩
    · intro z ⟨h3, h4⟩
      refine EvP.step (fun k => impl_missed.l1.eq_2 _ _ _ _ _ _ _ _ _ _ _ _ k) (EvP.neg (by omega) ?_)
      rw [wrap64_up (by omega)]
      exact ih z ⟨by omega, h4⟩
    · intro j z hj ⟨h3, h4⟩ ih2
      refine EvP.step (fun k => impl_missed.l1.eq_2 _ _ _ _ _ _ _ _ _ _ _ _ k) (EvP.pos (by omega) (EvP.pos (by omega) (EvP.pos (by omega) ?_)))
      rw [rdTr, wrap64_up (by omega)]
      refine EvP.ite (fun h5 => ?_) (fun h5 => ih2 z ⟨by omega, h4⟩)
      unfold impl_Turn_end.f
      refine EvP.opt rfl ?_
      refine EvP.bind (begins_ev l (by omega) _ _) (fun r hr => EvP.ite (fun h6 => ih2 z ⟨by omega, h4⟩) (fun h6 => EvP.pos (by omega) ?_))
      refine ih2 _ ⟨by simp; omega, fun e he => ?_⟩
      rcases List.mem_append.1 he with he | he
      · exact h4 e he
      · rw [List.mem_singleton] at he
        exact ⟨i, j, he, hi, hj, h5⟩
theorem missedAnswers_ev {l : List TRn} {av : List ARn} (D : DT l) (A : DA av) {ps : List (List Int)} (h : Ev (fun k => impl_missed.f k l av) ps) : Ev (fun k => impl_MissedAnswers.f k l av) (ps, 0) := by
  unfold impl_MissedAnswers.f
  exact Ev.bind (implTurns_ev l D.vt) (Ev.pos rfl (Ev.bind (answersOk_ev av A) (Ev.pos rfl (Ev.bind h (Ev.now _)))))
/-- The pair's answer is among the turns. -/
def found (l : List TRn) (av : List ARn) (s : List TRn) (e : List Int) : Prop := hits s (rd_T38 av (rd e 0)).f1 ((rd_T36 l (rd e 1)).f1 + (rd_T36 l (rd e 1)).f2 + (rd_T38 av (rd e 0)).f2)
theorem rdP (ps : List (List Int)) (i : Nat) (h : i < ps.length) : rd_L5 ps (i : Int) = ps[i] := by simp [rd_L5, List.getD_eq_getElem?_getD, List.getElem?_eq_getElem h]
theorem rd_a (a b : Int) : rd [a, b] 0 = a := rfl
theorem rd_b (a b : Int) : rd [a, b] 1 = b := rfl
theorem add_ev (l : List TRn) (av : List ARn) (D : DT l) (A : DA av) {ps : List (List Int)} (h : Ev (fun k => impl_missed.f k l av) ps) (h1 : ps.length ≤ 12) (h2 : ∀ e ∈ ps, pairOk l av e) :
    EvP (fun k => impl_AddAnswers.f k l av 8) (fun r => r.2 = 0 ∧ VT r.1 ∧ ∀ e ∈ ps, found l av r.1 e) := by
  have hl := D.len
  have ha := A.len
  unfold impl_AddAnswers.f
  refine EvP.ev (implTurns_ev l D.vt) (EvP.pos rfl (EvP.ev (answersOk_ev av A) ?_))
  refine EvP.step (fun k => impl_AddAnswers.j0.eq_2 _ _ _ _ k) (EvP.neg (by decide) (EvP.opt (withinT _ _ _) (EvP.pos (by decide) ?_)))
  have ec : impl_Turn_44.f l = some l := by
    unfold impl_Turn_44.f
    simp only [Option.bind_some]
    rw [if_pos (by simp; omega)]
    rfl
  refine EvP.opt ec (EvP.ev h ?_)
  refine EvP.up (fun k (s : List TRn) i => impl_AddAnswers.l0 k l av 8 s ps (ps.length : Int) i) ps.length (fun s i => s.length ≤ 6 + i ∧ (∀ t ∈ s, tvB t = true) ∧ s.Pairwise (fun a b => lessT a b = true) ∧ ∀ (j : Nat) (hj : j < ps.length), j < i → found l av s ps[j]) _ ?_ ?_ l ⟨by omega, fun t ht => tvB_of (D.all t ht), D.srt, fun j _ hj => by omega⟩
  · intro s ⟨g1, g2, g3, g4⟩
    refine EvP.step (fun k => impl_AddAnswers.l0.eq_2 _ _ _ _ _ _ _ k) (EvP.neg (by omega) (EvP.neg (by omega) (EvP.now _ ⟨rfl, ⟨by dsimp only; omega, g2, g3⟩, fun e he => ?_⟩)))
    obtain ⟨j, hj, rfl⟩ := List.mem_iff_getElem.1 he
    exact g4 j hj hj
  · intro i s hi ⟨g1, g2, g3, g4⟩ ih
    obtain ⟨p, q, he, hp, hq, hn⟩ := h2 _ (List.getElem_mem hi)
    refine EvP.step (fun k => impl_AddAnswers.l0.eq_2 _ _ _ _ _ _ _ k) (EvP.pos (by omega) (EvP.pos (by omega) (EvP.pos (by omega) ?_)))
    rw [rdP ps i hi, he, rd_a, rd_b, rdAn, rdTr]
    refine EvP.pos (by simp) (EvP.pos (by omega) (EvP.pos (by omega) (EvP.pos (by simp) (EvP.pos (by omega) (EvP.pos (by omega) ?_)))))
    obtain ⟨a1, a2, a3, a4⟩ := A.all _ (aAt_mem av p hp)
    obtain ⟨b1, b2, b3, b4, b5⟩ := D.at_ hq
    unfold impl_Turn_end.f
    refine EvP.opt rfl ?_
    rw [wrap64_of (x := (tAt l q).f1 + (tAt l q).f2) (by omega) (by omega), wrap64_of (x := (tAt l q).f1 + (tAt l q).f2 + (aAt av p).f2) (by omega) (by omega), wrap64_up (by omega)]
    have hf : ∀ s' : List TRn, found l av s' ps[i] ↔ hits s' (aAt av p).f1 ((tAt l q).f1 + (tAt l q).f2 + (aAt av p).f2) := fun s' => by
      unfold found
      rw [he, rd_a, rd_b, rdAn, rdTr]
    obtain ⟨b, hb⟩ : ∃ b : TRn, b = ⟨(aAt av p).f1, (tAt l q).f1 + (tAt l q).f2 + (aAt av p).f2, 8⟩ := ⟨_, rfl⟩
    have e0 : (aAt av p).f1 = b.f0 := by rw [hb]
    have e1 : (tAt l q).f1 + (tAt l q).f2 + (aAt av p).f2 = b.f1 := by rw [hb]
    have e2 : (8 : Int) = b.f2 := by rw [hb]
    have hbv : tvB b = true := by
      unfold tvB
      rw [← e0, a2, decide_eq_true (show 0 ≤ b.f1 ∧ b.f1 ≤ 10000 by omega), decide_eq_true (show 1 ≤ b.f2 ∧ b.f2 ≤ 10000 by omega)]
      rfl
    refine EvP.bind (begins_ev s (by omega) _ _) (fun r hr => EvP.ite (fun h5 => ?_) (fun h5 => ?_))
    · refine ih s ⟨by omega, g2, g3, fun j hj hj2 => ?_⟩
      by_cases e : j = i
      · subst e; exact (hf s).2 (hr.1 h5)
      · exact g4 j hj (by omega)
    · have hno : ∀ j, j < s.length → keqT b (tAt s j) = false := fun j hj => by
        cases h9 : keqT b (tAt s j) with
        | false => rfl
        | true =>
          rw [keqT_iff] at h9
          exact absurd (hr.2 ⟨_, tAt_mem s j hj, by rw [e0]; exact h9.2.1.symm, by rw [e1]; exact h9.1.symm⟩) h5
      rw [e0, e1]
      refine EvP.ev (a := true) (by have := tv_ev b hbv; rw [← e2] at this; exact this) (EvP.pos rfl ?_)
      have hse := searchT_ev s b (by omega) g3
      rw [← e2] at hse
      refine EvP.bind hse (fun r2 hr2 => ?_)
      have hpl := posT_le s b
      have ei : impl_Turn_50.f s r2.1 [(⟨b.f0, b.f1, 8⟩ : S36)] = some (s.take (posT s b) ++ b :: s.drop (posT s b)) := by
        unfold impl_Turn_50.f
        rw [hr2, if_pos ⟨by omega, by omega, rfl, by omega⟩]
        rw [show (⟨b.f0, b.f1, 8⟩ : S36) = b by rw [hb]]
        simp
      refine EvP.opt ei ?_
      refine ih _ ⟨by simp; omega, fun t ht => ?_, put_srt _ hpl g3 (fun j hj => (less_posT g3 j (by omega)).2 hj) (fun j hj hj2 => lessT_tri (by
        cases h9 : lessT (tAt s j) b with
        | false => rfl
        | true => have := (less_posT g3 j hj2).1 h9; omega) (keqT_symm (hno j hj2))), fun j hj hj2 => ?_⟩
      · rcases mem_put.1 ht with rfl | ht
        · exact hbv
        · exact g2 t ht
      · by_cases e : j = i
        · subst e; exact (hf _).2 ⟨b, mem_put.2 (.inl rfl), by rw [e0], e1.symm⟩
        · obtain ⟨x, hx, hx2⟩ := g4 j hj (by omega)
          exact ⟨x, mem_put.2 (.inr hx), hx2⟩
end Go.Proofs.Ytcgkmdmbjffipaa.P
namespace Go.Proofs.Ytcgkmdmbjffipaa.P
open Go.RowKit Go.Proofs.YtcgkmdmbjffipaaW.PrintWords Go.Proofs.YtcgkmdmbjffipaaW.PrintLast Go.Proofs.YtcgkmdmbjffipaaW.PrintMore
set_option linter.unusedVariables false
set_option linter.unusedSimpArgs false
theorem end_ev (t : TRn) (h : okT t) : impl_Turn_end.f t.f0 t.f1 t.f2 = some (t.f1 + t.f2) := by
  obtain ⟨h1, h2, h3, h4, h5⟩ := h
  unfold impl_Turn_end.f
  rw [wrap64_of (by omega) (by omega)]
def gapOk (l : List TRn) (e : List Int) : Prop := ∃ a b : Int, e = [a, b] ∧ 0 ≤ a ∧ a < b ∧ b ≤ 200 ∧ ∀ x ∈ l, x.f1 + x.f2 ≤ a ∨ b ≤ x.f1
theorem sorted_f1 {l : List TRn} (D : DT l) {i j : Nat} (h : i ≤ j) (hj : j < l.length) : (tAt l i).f1 ≤ (tAt l j).f1 := by
  by_cases e : i = j
  · subst e; exact Int.le_refl _
  · have := D.vt.lt (i := i) (j := j) (by omega) hj
    rw [lessT_iff] at this
    omega
theorem mx_ge (a b : Int) : a ≤ mx a b ∧ b ≤ mx a b ∧ (mx a b = a ∨ mx a b = b) := by unfold mx; split <;> omega
theorem silences_ev (l : List TRn) (D : DT l) : EvP (fun k => impl_SilencesOf.f k l) (fun r => r.2 = 0 ∧ r.1.length ≤ 6 ∧ ∀ e ∈ r.1, gapOk l e) := by
  have hl := D.len
  unfold impl_SilencesOf.f
  refine EvP.ev (implTurns_ev l D.vt) (EvP.pos rfl ?_)
  refine EvP.up (fun k (s : List (List Int) × Int) i => impl_SilencesOf.l0 k s.1 s.2 l (l.length : Int) i) l.length (fun s i => s.1.length ≤ i ∧ (∀ e ∈ s.1, gapOk l e) ∧ 0 ≤ s.2 ∧ s.2 ≤ 200 ∧ ∀ j, j < i → (tAt l j).f1 + (tAt l j).f2 ≤ s.2) _ ?_ ?_ ([], 0) ⟨by simp, by simp, by simp, by simp, fun j hj => by omega⟩
  · rintro ⟨o, p⟩ ⟨h1, h2, h3, h4, h5⟩
    exact EvP.step (fun k => impl_SilencesOf.l0.eq_2 _ _ _ _ _ k) (EvP.neg (by omega) (EvP.now _ ⟨rfl, by dsimp only at h1 ⊢; omega, h2⟩))
  · rintro i ⟨o, p⟩ hi ⟨h1, h2, h3, h4, h5⟩ ih
    dsimp only at h1 h2 h3 h4 h5 ⊢
    refine EvP.step (fun k => impl_SilencesOf.l0.eq_2 _ _ _ _ _ k) (EvP.pos (by omega) (EvP.pos (by omega) (EvP.pos (by omega) ?_)))
    rw [rdTr, wrap64_up (by omega), end_ev _ (D.at_ hi)]
    obtain ⟨g1, g2, g3, g4, g5⟩ := D.at_ hi
    obtain ⟨m1, m2, m3⟩ := mx_ge p ((tAt l i).f1 + (tAt l i).f2)
    have hnext : ∀ j, j < i + 1 → (tAt l j).f1 + (tAt l j).f2 ≤ mx p ((tAt l i).f1 + (tAt l i).f2) := fun j hj => by
      by_cases e : j = i
      · subst e; exact m2
      · have := h5 j (by omega); omega
    refine EvP.ite (fun h6 => EvP.pos (by omega) (EvP.opt rfl ?_)) (fun h6 => EvP.opt rfl ?_)
    · refine ih (o ++ [[p, (tAt l i).f1]], mx p ((tAt l i).f1 + (tAt l i).f2)) ⟨by simp; omega, fun e he => ?_, by dsimp only; omega, by dsimp only; omega, hnext⟩
      rcases List.mem_append.1 he with he | he
      · exact h2 e he
      · rw [List.mem_singleton] at he
        refine ⟨p, (tAt l i).f1, he, by omega, by omega, by omega, fun x hx => ?_⟩
        obtain ⟨j, hj, rfl⟩ := mem_tAt hx
        by_cases e : j < i
        · exact .inl (h5 j e)
        · exact .inr (sorted_f1 D (by omega) hj)
    · exact ih (o, mx p ((tAt l i).f1 + (tAt l i).f2)) ⟨by dsimp only; omega, h2, by dsimp only; omega, by dsimp only; omega, hnext⟩
def cov (t : Int) (x : TRn) : Bool := decide (x.f1 ≤ t ∧ t ≤ x.f1 + x.f2 - 1)
def namesT (l : List TRn) (t : Int) : List ByteArray := (l.filter (cov t)).map (·.f0)
def sortT (n : List ByteArray) : List ByteArray := ((n.map bytesL).mergeSort fun x y => decide (x ≤ y)).map ofL
def compT (n : List ByteArray) : List ByteArray := (Go.Lib.compact (n.map bytesL)).map ofL
def pA (l : List TRn) (t : Int) : List ByteArray := compT (sortT (namesT l t))
theorem bytes_of (n : List (List UInt8)) : (n.map ofL).map bytesL = n := by
  rw [List.map_map]
  have : bytesL ∘ ofL = id := funext fun z => bytesL_ofL z
  rw [this, List.map_id]
theorem compact_sub (zs : List (List UInt8)) : ∀ x ∈ Go.Lib.compact zs, x ∈ zs := by
  intro x hx
  unfold Go.Lib.compact Go.Lib.compactUpTo at hx
  obtain ⟨i, hi, rfl⟩ := List.mem_map.1 hx
  have hlt := List.mem_range.1 (List.mem_filter.1 hi).1
  have : zs.toArray[i]! = zs[i] := by simp [hlt]
  rw [this]
  exact List.getElem_mem hlt
theorem compact_pos (zs : List (List UInt8)) (h : 0 < zs.length) : 0 < (Go.Lib.compact zs).length := by
  unfold Go.Lib.compact Go.Lib.compactUpTo
  rw [List.length_map]
  exact List.length_pos_of_mem (a := 0) (List.mem_filter.2 ⟨List.mem_range.2 h, Go.Lib.keeps_lt_one _ 0 (by omega)⟩)
theorem pA_mem {l : List TRn} {t : Int} {x : ByteArray} (h : x ∈ pA l t) : ∃ y ∈ l, cov t y = true ∧ y.f0.toList = x.toList := by
  unfold pA compT at h
  obtain ⟨z, hz, rfl⟩ := List.mem_map.1 h
  have h2 := compact_sub _ z hz
  unfold sortT at h2
  rw [bytes_of] at h2
  have h3 : z ∈ (namesT l t).map bytesL := (List.mergeSort_perm _ _).mem_iff.1 h2
  obtain ⟨s, hs, rfl⟩ := List.mem_map.1 h3
  obtain ⟨y, hy, rfl⟩ := List.mem_map.1 hs
  obtain ⟨hy1, hy2⟩ := List.mem_filter.1 hy
  exact ⟨y, hy1, hy2, by rw [ofL_bytesL]⟩
theorem pA_pos {l : List TRn} {t : Int} {y : TRn} (hy : y ∈ l) (h : cov t y = true) : 0 < (pA l t).length := by
  have h0 : y.f0 ∈ namesT l t := List.mem_map.2 ⟨y, List.mem_filter.2 ⟨hy, h⟩, rfl⟩
  have h1 := List.length_pos_of_mem h0
  unfold pA compT
  rw [List.length_map]
  refine compact_pos _ ?_
  unfold sortT
  simpa using h1
theorem pA_nil {l : List TRn} {t : Int} (h : ∀ y ∈ l, cov t y = false) : pA l t = [] := by
  have h0 : pA l t = [] ∨ ∃ x, x ∈ pA l t := by
    cases hc : pA l t with
    | nil => exact .inl rfl
    | cons a b => exact .inr ⟨a, by simp⟩
  rcases h0 with h0 | ⟨x, hx⟩
  · exact h0
  · obtain ⟨y, hy, hy2, _⟩ := pA_mem hx
    rw [h y hy] at hy2
    cases hy2
theorem at_ev (l : List TRn) (D : DT l) (t : Int) : Ev (fun k => impl_playersAt.f k l t) (pA l t) := by
  have hl := D.len
  unfold impl_playersAt.f
  refine EvP.ev_of ?_
  refine EvP.up (fun k (s : List ByteArray) i => impl_playersAt.l0 k t s l (l.length : Int) i) l.length (fun s i => s = namesT (l.take i) t ∧ s.length ≤ i) _ ?_ ?_ [] ⟨by simp [namesT], by simp⟩
  · rintro s ⟨hs, h1⟩
    rw [List.take_length] at hs
    refine EvP.step (fun k => impl_playersAt.l0.eq_2 _ _ _ _ _ k) (EvP.neg (by omega) ?_)
    have e1 : slices_Sort_string_string.f s = some (sortT s) := by unfold slices_Sort_string_string.f; rw [if_pos (by omega)]; rfl
    have e2 : slices_Compact_string_string.f (sortT s) = some (compT (sortT s)) := by
      unfold slices_Compact_string_string.f
      rw [if_pos (by simp [sortT]; omega)]
      rfl
    rw [e1, Option.bind_some, e2, Option.bind_some]
    exact EvP.now _ (by rw [hs]; rfl)
  · rintro i s hi ⟨hs, h1⟩ ih
    refine EvP.step (fun k => impl_playersAt.l0.eq_2 _ _ _ _ _ k) (EvP.pos (by omega) (EvP.pos (by omega) (EvP.pos (by omega) ?_)))
    rw [rdTr, wrap64_up (by omega), end_ev _ (D.at_ hi)]
    obtain ⟨g1, g2, g3, g4, g5⟩ := D.at_ hi
    refine EvP.opt rfl (EvP.opt (withinT _ _ _) ?_)
    rw [wrap64_of (x := (tAt l i).f1 + (tAt l i).f2 - 1) (by omega) (by omega)]
    have et : l.take (i + 1) = l.take i ++ [tAt l i] := by rw [List.take_add_one, List.getElem?_eq_getElem hi, tAt_get l i hi]; rfl
    have en : namesT (l.take (i + 1)) t = namesT (l.take i) t ++ (if cov t (tAt l i) = true then [(tAt l i).f0] else []) := by
      rw [et]
      unfold namesT
      rw [List.filter_append, List.map_append]
      congr 1
      by_cases h : cov t (tAt l i) = true <;> simp [h]
    refine EvP.ite (fun h6 => EvP.pos (by omega) ?_) (fun h6 => ?_)
    · have hc : cov t (tAt l i) = true := h6
      exact ih _ ⟨by rw [en, if_pos hc, hs], by simp; omega⟩
    · have hc : ¬ cov t (tAt l i) = true := h6
      exact ih _ ⟨by rw [en, if_neg hc, hs, List.append_nil], by omega⟩
theorem players_ev (l : List TRn) (D : DT l) (t : Int) (h0 : 0 ≤ t) (h1 : t ≤ 20000) : Ev (fun k => impl_PlayersAt.f k l t) (pA l t, 0) := by
  unfold impl_PlayersAt.f
  refine Ev.bind (implTurns_ev l D.vt) (Ev.pos rfl (Ev.opt (withinT _ _ _) (Ev.pos (decide_eq_true ⟨h0, h1⟩) (Ev.bind (at_ev l D t) (Ev.now _)))))
def cl (T : Int) (x : TRn) : Int := max 0 (min (T - x.f1) x.f2)
def sumT (p : List UInt8) (T : Int) : List TRn → Int
  | [] => 0
  | x :: l => (if x.f0.toList = p then cl T x else 0) + sumT p T l
def totT (p : List UInt8) : List TRn → Int
  | [] => 0
  | x :: l => (if x.f0.toList = p then x.f2 else 0) + totT p l
theorem sum_mono (p : List UInt8) (T : Int) : ∀ l, sumT p T l ≤ sumT p (T + 1) l
  | [] => Int.le_refl _
  | x :: l => by
    have := sum_mono p T l
    unfold sumT cl
    split <;> omega
theorem sum_cov (p : List UInt8) (T : Int) (y : TRn) (hp : y.f0.toList = p) (hc : y.f1 ≤ T ∧ T ≤ y.f1 + y.f2 - 1) : ∀ l, y ∈ l → sumT p T l + 1 ≤ sumT p (T + 1) l
  | [], h => by cases h
  | x :: l, h => by
    have h1 := sum_mono p T l
    rcases List.mem_cons.1 h with rfl | h
    · unfold sumT cl
      rw [if_pos hp, if_pos hp]
      omega
    · have := sum_cov p T y hp hc l h
      unfold sumT cl
      split <;> omega
theorem sum_tot (p : List UInt8) (T : Int) : ∀ l : List TRn, (∀ x ∈ l, 4 ≤ x.f2 ∧ x.f2 ≤ 20) → 0 ≤ sumT p T l ∧ sumT p T l ≤ totT p l ∧ totT p l ≤ 20 * l.length
  | [], _ => by simp [sumT, totT]
  | x :: l, h => by
    have h1 := sum_tot p T l (fun y hy => h y (List.mem_cons_of_mem _ hy))
    have h2 := h x (by simp)
    unfold sumT totT cl
    rw [List.length_cons]
    split <;> omega
theorem equal_ev (a : List ByteArray) (p : ByteArray) : EvP (fun k => slices_Equal_string_string.f k a [p]) (fun r => r = true → ∃ x ∈ a, x.toList = p.toList) := by
  unfold slices_Equal_string_string.f
  refine EvP.ite (fun h => ?_) (fun h => EvP.now _ (fun h => by cases h))
  have hp1 : ([p] : List ByteArray).length = 1 := rfl
  have hl : a.length = 1 := by omega
  refine EvP.step (fun k => slices_Equal_string_string.l0.eq_2 _ _ _ _ k) (EvP.pos (by omega) (EvP.pos (by decide) (EvP.pos (by omega) (EvP.pos (by simp) ?_))))
  refine EvP.ite (fun h2 => ?_) (fun h2 => EvP.now _ (fun h => by cases h))
  have hm : ∃ x ∈ a, x.toList = p.toList := ⟨_, rdOf_mem (l := a) (v := 0) (by omega) (by omega), h2⟩
  rw [wrap64_of (by decide) (by decide)]
  exact EvP.step (fun k => slices_Equal_string_string.l0.eq_2 _ _ _ _ k) (EvP.neg (by omega) (EvP.now _ (fun _ => hm)))
theorem solo_ev (l : List TRn) (D : DT l) (hn : 0 < l.length) : EvP (fun k => impl_SoloTime.f k l (tAt l 0).f0) (fun r => r.2 = 0 ∧ 0 ≤ r.1 ∧ r.1 ≤ totT (tAt l 0).f0.toList l) := by
  have hl := D.len
  have hb := fun T : Int => sum_tot (tAt l 0).f0.toList T l (fun x hx => ⟨(D.all x hx).2.2.2.1, (D.all x hx).2.2.2.2⟩)
  unfold impl_SoloTime.f
  refine EvP.ev (implTurns_ev l D.vt) (EvP.pos rfl ?_)
  have h1 : Ev (fun k => impl_Turn_53_at_impl_SoloTime_1.f k l (tAt l 0).f0) true := by
    unfold impl_Turn_53_at_impl_SoloTime_1.f impl_Turn_104_at_impl_SoloTime_1.f
    refine EvP.ev_of (EvP.bind (P := fun r => r = 0) ?_ (fun r h => EvP.now _ (by rw [h]; rfl)))
    refine EvP.step (fun k => impl_Turn_104_at_impl_SoloTime_1.l0.eq_2 _ _ _ _ k) (EvP.pos (by omega) (EvP.pos (by decide) (EvP.pos (by omega) ?_)))
    have e0 : rd_T36 l 0 = tAt l 0 := rdTr l 0
    rw [e0]
    unfold impl_SoloTime_1.f
    exact EvP.opt rfl (EvP.pos (by simp) (EvP.now _ rfl))
  refine EvP.ev h1 (EvP.pos rfl ?_)
  refine EvP.up (fun k (s : Int) i => impl_SoloTime.l0 k l s i (tAt l 0).f0) 20000 (fun s i => 0 ≤ s ∧ s ≤ sumT (tAt l 0).f0.toList (i : Int) l) _ ?_ ?_ 0 ⟨by omega, (hb 0).1⟩
  · rintro s ⟨h2, h3⟩
    refine EvP.step (fun k => impl_SoloTime.l0.eq_2 _ _ _ _ k) (EvP.neg (by decide) (EvP.now _ ⟨rfl, h2, ?_⟩))
    have := (hb ((20000 : Nat) : Int)).2.1
    dsimp only
    omega
  · rintro i s hi ⟨h2, h3⟩ ih
    refine EvP.step (fun k => impl_SoloTime.l0.eq_2 _ _ _ _ k) (EvP.pos (by omega) (EvP.ev (at_ev l D (i : Int)) (EvP.bind (equal_ev _ _) (fun r hr => ?_))))
    rw [wrap64_up (by omega)]
    have h4 := hb (i : Int)
    have h5 := sum_mono (tAt l 0).f0.toList (i : Int) l
    have ec : (((i + 1 : Nat)) : Int) = (i : Int) + 1 := by omega
    refine EvP.ite (fun h6 => ?_) (fun h6 => ?_)
    · obtain ⟨x, hx, hx2⟩ := hr h6
      obtain ⟨y, hy, hy2, hy3⟩ := pA_mem hx
      have h7 := sum_cov (tAt l 0).f0.toList (i : Int) y (hy3.trans hx2) (of_decide_eq_true hy2) l hy
      rw [wrap64_of (by omega) (by omega)]
      exact ih _ ⟨by omega, by rw [ec]; omega⟩
    · exact ih _ ⟨h2, by rw [ec]; omega⟩
theorem fullest_ev (l : List TRn) (D : DT l) (hn : 0 < l.length) : EvP (fun k => impl_FullestTime.f k l) (fun r => r.2.2 = 0 ∧ 1 ≤ r.2.1 ∧ 0 ≤ r.1 ∧ r.1 ≤ 76 ∧ r.2.1 = ((pA l r.1).length : Int)) := by
  have hl := D.len
  unfold impl_FullestTime.f
  refine EvP.ev (implTurns_ev l D.vt) (EvP.pos rfl (EvP.neg (by omega) ?_))
  refine EvP.up (fun k (s : Int × Int) i => impl_FullestTime.l0 k l s.1 s.2 l (l.length : Int) i) l.length (fun s i => i = 0 ∧ s.2 = 0 ∨ 1 ≤ s.2 ∧ 0 ≤ s.1 ∧ s.1 ≤ 76 ∧ s.2 = ((pA l s.1).length : Int)) _ ?_ ?_ (0, 0) (.inl ⟨rfl, rfl⟩)
  · rintro ⟨a, b⟩ h
    rcases h with ⟨h, _⟩ | ⟨h1, h2, h3, h4⟩
    · omega
    · exact EvP.step (fun k => impl_FullestTime.l0.eq_2 _ _ _ _ _ _ k) (EvP.neg (by omega) (EvP.now _ ⟨rfl, h1, h2, h3, h4⟩))
  · rintro i ⟨a, b⟩ hi h ih
    dsimp only at h ⊢
    refine EvP.step (fun k => impl_FullestTime.l0.eq_2 _ _ _ _ _ _ k) (EvP.pos (by omega) (EvP.pos (by omega) (EvP.pos (by omega) ?_)))
    rw [rdTr, wrap64_up (by omega)]
    obtain ⟨g1, g2, g3, g4, g5⟩ := D.at_ hi
    have hp : 0 < (pA l (tAt l i).f1).length := pA_pos (tAt_mem l i hi) (by unfold cov; exact decide_eq_true ⟨Int.le_refl _, by omega⟩)
    refine EvP.ev (at_ev l D _) (EvP.ite (fun h6 => ?_) (fun h6 => ?_))
    · refine ih ((tAt l i).f1, ((pA l (tAt l i).f1).length : Int)) (.inr ⟨?_, g2, g3, rfl⟩)
      show (1 : Int) ≤ ((pA l (tAt l i).f1).length : Int)
      omega
    · refine ih (a, b) (.inr ?_)
      rcases h with ⟨_, h⟩ | h
      · omega
      · exact h
end Go.Proofs.Ytcgkmdmbjffipaa.P
namespace Go.Proofs.Ytcgkmdmbjffipaa.Pure
open Go.RowKit Go.Proofs.Ytcgkmdmbjffipaa.P Go.Proofs.YtcgkmdmbjffipaaW.PrintWords Go.Proofs.YtcgkmdmbjffipaaW.PrintLast Go.Proofs.YtcgkmdmbjffipaaW.PrintMore
set_option linter.unusedVariables false
set_option linter.unusedSimpArgs false
abbrev isT : Bool → Prop := fun r => r = true
theorem last_ev (l : List TRn) (D : DT l) (hn : 0 < l.length) : EvP (fun k => laws_FnEnsemble.l4 k l (tAt l 0).f0 0 0) isT := by
  have hl := D.len
  have hb := sum_tot (tAt l 0).f0.toList 0 l (fun x hx => ⟨(D.all x hx).2.2.2.1, (D.all x hx).2.2.2.2⟩)
  refine EvP.up (fun k (s : Int) i => laws_FnEnsemble.l4 k l (tAt l 0).f0 s i) l.length (fun s i => 0 ≤ s ∧ s + totT (tAt l 0).f0.toList (l.drop i) = totT (tAt l 0).f0.toList l) _ ?_ ?_ 0 ⟨Int.le_refl _, by simp⟩
  · rintro s ⟨_, h⟩
    rw [List.drop_length] at h
    have h' : s = totT (tAt l 0).f0.toList l := by simpa [totT] using h
    refine EvP.step (fun k => laws_FnEnsemble.l4.eq_2 _ _ _ _ k) (EvP.neg (by omega) ?_)
    refine EvP.bind (solo_ev l D hn) (fun r ⟨r1, r2, r3⟩ => EvP.bind (fullest_ev l D hn) (fun q ⟨q1, q2, q3, q4, q5⟩ => EvP.ev (players_ev l D q.1 q3 (by omega)) ?_))
    refine EvP.pos r1 (EvP.pos r2 (EvP.pos (by omega) (EvP.pos q1 (EvP.pos q2 (EvP.pos rfl (EvP.now _ ?_))))))
    show (_ == _) = true
    rw [q5]
    exact beq_self_eq_true _
  · rintro i s hi ⟨h0, h⟩ ih
    refine EvP.step (fun k => laws_FnEnsemble.l4.eq_2 _ _ _ _ k) (EvP.pos (by omega) (EvP.pos (by omega) ?_))
    rw [rdTr, wrap64_up (by omega)]
    obtain ⟨g1, g2, g3, g4, g5⟩ := D.at_ hi
    have hb2 := sum_tot (tAt l 0).f0.toList 0 (l.drop (i + 1)) (fun x hx => ⟨(D.all x (List.mem_of_mem_drop hx)).2.2.2.1, (D.all x (List.mem_of_mem_drop hx)).2.2.2.2⟩)
    have ed : totT (tAt l 0).f0.toList (l.drop i) = (if (tAt l i).f0.toList = (tAt l 0).f0.toList then (tAt l i).f2 else 0) + totT (tAt l 0).f0.toList (l.drop (i + 1)) := by
      rw [List.drop_eq_getElem_cons hi, tAt_get l i hi]
      rfl
    rw [ed] at h
    refine EvP.ite (fun h6 => ?_) (fun h6 => ?_)
    · rw [if_pos h6] at h
      rw [wrap64_of (by omega) (by omega)]
      exact ih _ ⟨by omega, by omega⟩
    · rw [if_neg h6] at h
      exact ih _ ⟨h0, by omega⟩
theorem gaps_ev (l : List TRn) (D : DT l) (gs : List (List Int)) (hg : gs.length ≤ 6) (h : ∀ e ∈ gs, gapOk l e) : EvP (fun k => laws_FnEnsemble.l2 k l gs 0) isT := by
  have hl := D.len
  refine EvP.up (fun k (_ : Unit) i => laws_FnEnsemble.l2 k l gs i) gs.length (fun _ _ => True) _ ?_ ?_ () trivial
  · intro _ _
    refine EvP.step (fun k => laws_FnEnsemble.l2.eq_2 _ _ _ k) (EvP.neg (by omega) (EvP.ite (fun _ => EvP.now _ rfl) (fun h5 => EvP.pos (by omega) ?_)))
    have e0 : rd_T36 l 0 = tAt l 0 := rdTr l 0
    rw [e0]
    exact last_ev l D (by omega)
  · intro i _ hi _ ih
    obtain ⟨a, b, he, ha, hab, hb, hx⟩ := h _ (List.getElem_mem hi)
    refine EvP.step (fun k => laws_FnEnsemble.l2.eq_2 _ _ _ k) (EvP.pos (by omega) (EvP.pos (by omega) ?_))
    rw [rdP gs i hi, he, rd_a, rd_b]
    refine EvP.pos (by simp) (EvP.pos (by simp) (EvP.pos (by simp) (EvP.neg (by omega) (EvP.neg (by omega) ?_))))
    refine EvP.step (fun k => laws_FnEnsemble.j5.eq_2 _ _ _ _ k) (EvP.neg (by rw [decide_eq_true_eq]; omega) (EvP.pos (by omega) (EvP.pos (by omega) ?_)))
    rw [rdP gs i hi, he, rd_a]
    refine EvP.pos (by simp) ?_
    have key : ∀ (d : Nat) (t : Int), t + d = b → a ≤ t → EvP (fun k => laws_FnEnsemble.l3 k l gs (i : Int) t) isT := by
      intro d
      induction d with
      | zero =>
        intro t h1 h2
        refine EvP.step (fun k => laws_FnEnsemble.l3.eq_2 _ _ _ _ k) (EvP.pos (by omega) (EvP.pos (by omega) ?_))
        rw [rdP gs i hi, he, rd_b, wrap64_up (by omega)]
        exact EvP.pos (by simp) (EvP.neg (by omega) (ih () trivial))
      | succ d ihd =>
        intro t h1 h2
        refine EvP.step (fun k => laws_FnEnsemble.l3.eq_2 _ _ _ _ k) (EvP.pos (by omega) (EvP.pos (by omega) ?_))
        rw [rdP gs i hi, he, rd_b, wrap64_of (x := t + 1) (by omega) (by omega)]
        refine EvP.pos (by simp) (EvP.pos (by omega) (EvP.ev (players_ev l D t (by omega) (by omega)) (EvP.pos rfl ?_)))
        have hn : pA l t = [] := pA_nil fun y hy => by
          unfold cov
          refine decide_eq_false ?_
          have := hx y hy
          omega
        rw [hn]
        exact EvP.pos rfl (ihd (t + 1) (by omega) (by omega))
    exact key (b - a).toNat a (by omega) (Int.le_refl _)
theorem bys_of {l : List Int} (h : ∀ x ∈ l, (Lit.int .u8 x).wf = true) : Bys l := fun x hx => by
  have := h x hx
  simp [Lit.wf, IntKind.wrap, IntKind.bits, IntKind.signed] at this
  have e1 : IntKind.u8.min = 0 := by decide
  have e2 : IntKind.u8.max = 255 := by decide
  omega
theorem FnEnsemble : laws_FnEnsemble.Pure := by
  intro l0 l1 _ _ hb0 _ _ hb1
  have b0 : Bys l0 := bys_of hb0
  have b1 : Bys l1 := bys_of hb1
  have hlong : ∃ b, laws_r8Long.f l0 l1 = some b := by unfold laws_r8Long.f; split <;> exact ⟨_, rfl⟩
  obtain ⟨b, hb⟩ := hlong
  suffices h : Ev (fun k => laws_FnEnsemble.f k l0 l1) true from by
    obtain ⟨K, h⟩ := h
    exact ⟨K, h K (Nat.le_refl _)⟩
  unfold laws_FnEnsemble.f
  refine Ev.opt hb ?_
  by_cases hl : b = true
  · exact Ev.pos hl (Ev.now _)
  refine Ev.neg hl (EvP.ev_of ?_)
  refine EvP.bind (drawT_ev b0) fun l D => EvP.bind (drawA_ev b1) fun as_ A => ?_
  have hln := D.len
  have han := A.len
  obtain ⟨ps, hps, hp1, hp2⟩ := missed_ev l as_ D A
  refine EvP.ev (missedAnswers_ev D A hps) (EvP.bind (add_ev l as_ D A hps hp1 hp2) fun r ⟨r1, r2, r3⟩ => ?_)
  refine EvP.pos rfl (EvP.pos r1 (EvP.ev (specTurns_ev r.1 r2) ?_))
  dsimp only
  rw [r1]
  refine EvP.step (fun k => laws_FnEnsemble.j0.eq_2 _ _ _ _ _ _ k) (EvP.neg (by decide) ?_)
  have hrl := r2.len
  refine EvP.up (fun k (_ : Unit) i => laws_FnEnsemble.l0 k l as_ ps r.1 0 i) ps.length (fun _ _ => True) _ ?_ ?_ () trivial
  · intro _ _
    refine EvP.step (fun k => laws_FnEnsemble.l0.eq_2 _ _ _ _ _ _ k) (EvP.neg (by omega) ?_)
    exact EvP.bind (silences_ev l D) fun g ⟨g1, g2, g3⟩ => EvP.pos g1 (gaps_ev l D g.1 g2 g3)
  · intro i _ hi _ ih
    obtain ⟨p, q, he, hp, hq, hn⟩ := hp2 _ (List.getElem_mem hi)
    have hfound := r3 _ (List.getElem_mem hi)
    obtain ⟨a1, a2, a3, a4⟩ := A.all _ (aAt_mem as_ p hp)
    obtain ⟨c1, c2, c3, c4, c5⟩ := D.at_ hq
    unfold found at hfound
    rw [he, rd_a, rd_b, rdAn, rdTr] at hfound
    refine EvP.step (fun k => laws_FnEnsemble.l0.eq_2 _ _ _ _ _ _ k) (EvP.pos (by omega) (EvP.pos (by omega) ?_))
    rw [rdP ps i hi, he, rd_a, rd_b]
    refine EvP.pos (by simp) (EvP.pos (by simp) (EvP.neg (by omega) (EvP.neg (by omega) (EvP.pos (by simp) (EvP.neg (by omega) (EvP.neg (by omega) (EvP.pos (by omega) (EvP.pos (by omega) (EvP.pos (by omega) (EvP.pos (by omega) ?_))))))))))
    rw [rdAn, rdTr, hn]
    refine EvP.step (fun k => laws_FnEnsemble.j2.eq_2 _ _ _ _ _ _ _ _ k) (EvP.neg (by simp) ?_)
    rw [rd_a, rd_b]
    refine EvP.pos (by simp) (EvP.pos (by omega) (EvP.pos (by omega) (EvP.pos (by simp) (EvP.pos (by omega) (EvP.pos (by omega) ?_)))))
    rw [rdAn, rdTr, wrap64_of (x := (tAt l q).f1 + (tAt l q).f2) (by omega) (by omega), wrap64_of (x := (tAt l q).f1 + (tAt l q).f2 + (aAt as_ p).f2) (by omega) (by omega)]
    obtain ⟨x, hx, hx2, hx3⟩ := hfound
    obtain ⟨y, hy, rfl⟩ := mem_tAt hx
    refine EvP.up (fun k (z : Bool) j => laws_FnEnsemble.l1 k l as_ ps r.1 0 (i : Int) [(p : Int), (q : Int)] ((tAt l q).f1 + (tAt l q).f2 + (aAt as_ p).f2) z j) r.1.length (fun z j => z = true ∨ j ≤ y) _ ?_ ?_ false (.inr (Nat.zero_le _))
    · intro z hz
      have hz' : z = true := hz.resolve_right (by omega)
      refine EvP.step (fun k => laws_FnEnsemble.l1.eq_2 _ _ _ _ _ _ _ _ _ _ k) (EvP.neg (by omega) (EvP.pos rfl (EvP.pos hz' ?_)))
      rw [wrap64_up (by omega)]
      exact ih () trivial
    · intro j z hj hz ih2
      refine EvP.step (fun k => laws_FnEnsemble.l1.eq_2 _ _ _ _ _ _ _ _ _ _ k) (EvP.pos (by omega) ?_)
      rw [wrap64_up (by omega), rd_a, rdTr, rdAn]
      refine EvP.ite (fun h5 => ih2 true (.inl rfl)) (fun h5 => ?_)
      have hz' := hz.resolve_left h5
      refine EvP.pos (by omega) (EvP.pos (by simp) (EvP.pos (by omega) (EvP.pos (by omega) ?_)))
      by_cases e : j = y
      · subst e
        refine EvP.pos hx2 (ih2 _ (.inl ?_))
        rw [hx3]
        exact beq_self_eq_true _
      · exact EvP.ite (fun h6 => ih2 _ (.inr (by omega))) (fun h6 => ih2 _ (.inr (by omega)))
end Go.Proofs.Ytcgkmdmbjffipaa.Pure
