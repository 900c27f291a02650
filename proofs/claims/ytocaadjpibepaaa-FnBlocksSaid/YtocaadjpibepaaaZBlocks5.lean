/- The texts QBlk, QBlk2, QDraw29, PureFnBlocks, one behind the other: what functions of the program, its reference and its laws come to, the words that this takes, and what follows. No condition beyond what each theorem names. -/
import Derived.Test.YtocaadjpibepaaaZBlocks1
import Derived.Test.YtocaadjpibepaaaZBlocks3
import Derived.Test.YtocaadjpibepaaaZBlocks0
import Derived.Test.YtocaadjpibepaaaZBlocks4
import Derived.Test.YtocaadjpibepaaaZBlocks2
/- Plain words on blocks: their order, validity, a list with one more block, and what the printed functions of the reference and of the program come to on valid lists. No condition beyond lengths that a machine can hold. -/
namespace Go.Proofs.Ytocaadjpibepaaa.P
open Go.RowKit Go.Proofs.YtocaadjpibepaaaW.PrintWords Go.Proofs.YtocaadjpibepaaaW.PrintLast Go.Proofs.YtocaadjpibepaaaW.PrintMore
set_option linter.unusedVariables false
set_option linter.unusedSimpArgs false
abbrev BLn := S27
def bAt (l : List BLn) (i : Nat) : BLn := l.getD i z27
theorem rdB (l : List BLn) (i : Nat) : rd_T27 l (i : Int) = bAt l i := by simp [rd_T27, bAt]
theorem bAt_get (l : List BLn) (i : Nat) (h : i < l.length) : bAt l i = l[i] := by simp [bAt, List.getD_eq_getElem?_getD, List.getElem?_eq_getElem h]
theorem bAt_mem (l : List BLn) (i : Nat) (h : i < l.length) : bAt l i ∈ l := by rw [bAt_get l i h]; exact List.getElem_mem h
/-! ### order -/
def cmpB (a b : BLn) : Int := if cmpS a.f0.toList b.f0.toList = 0 then cmpS a.f1.toList b.f1.toList else cmpS a.f0.toList b.f0.toList
def lessB (a b : BLn) : Bool := Op.bytesLess a.f0.toList b.f0.toList || (a.f0.toList == b.f0.toList && Op.bytesLess a.f1.toList b.f1.toList)
def keqB (a b : BLn) : Bool := a.f0.toList == b.f0.toList && a.f1.toList == b.f1.toList
theorem keqB_iff {a b : BLn} : keqB a b = true ↔ a.f0.toList = b.f0.toList ∧ a.f1.toList = b.f1.toList := by simp [keqB]
theorem lessB_iff {a b : BLn} : lessB a b = true ↔ Op.bytesLess a.f0.toList b.f0.toList = true ∨ a.f0.toList = b.f0.toList ∧ Op.bytesLess a.f1.toList b.f1.toList = true := by simp [lessB]
theorem cmpB_lt {a b : BLn} : cmpB a b < 0 ↔ lessB a b = true := by
  rw [lessB_iff]
  unfold cmpB
  by_cases h : cmpS a.f0.toList b.f0.toList = 0
  · rw [if_pos h, cmpS_lt]
    have h2 := cmpS_zero.1 h
    rw [h2, bytesLess_irrefl]
    simp
  · rw [if_neg h, cmpS_lt]
    have h2 : ¬ a.f0.toList = b.f0.toList := fun e => h (cmpS_zero.2 e)
    simp [h2]
theorem cmpB_zero {a b : BLn} : cmpB a b = 0 ↔ keqB a b = true := by
  rw [keqB_iff]
  unfold cmpB
  by_cases h : cmpS a.f0.toList b.f0.toList = 0
  · rw [if_pos h, cmpS_zero]
    simp [cmpS_zero.1 h]
  · rw [if_neg h]
    have h2 : ¬ a.f0.toList = b.f0.toList := fun e => h (cmpS_zero.2 e)
    simp [h, h2]
theorem lessB_irrefl (a : BLn) : lessB a a = false := by
  cases h : lessB a a with
  | false => rfl
  | true => rw [lessB_iff, bytesLess_irrefl, bytesLess_irrefl] at h; simp at h
theorem lessB_trans {a b c : BLn} (h : lessB a b = true) (h2 : lessB b c = true) : lessB a c = true := by
  rw [lessB_iff] at h h2 ⊢
  rcases h with h | ⟨e, h⟩ <;> rcases h2 with h2 | ⟨e2, h2⟩
  · exact .inl (bytesLess_trans h h2)
  · exact .inl (by rw [← e2]; exact h)
  · exact .inl (by rw [e]; exact h2)
  · exact .inr ⟨e.trans e2, bytesLess_trans h h2⟩
theorem lessB_asymm {a b : BLn} (h : lessB a b = true) : lessB b a = false := by
  cases h2 : lessB b a with
  | false => rfl
  | true => have := lessB_trans h h2; rw [lessB_irrefl] at this; cases this
theorem lessB_tri {a b : BLn} (h : lessB a b = false) (h2 : keqB a b = false) : lessB b a = true := by
  cases h3 : lessB b a with
  | true => rfl
  | false =>
    have e : a.f0.toList = b.f0.toList := by
      apply bytesLess_eq_of
      · cases h4 : Op.bytesLess a.f0.toList b.f0.toList with
        | false => rfl
        | true => have : lessB a b = true := lessB_iff.2 (.inl h4)
                  rw [h] at this; cases this
      · cases h4 : Op.bytesLess b.f0.toList a.f0.toList with
        | false => rfl
        | true => have : lessB b a = true := lessB_iff.2 (.inl h4)
                  rw [h3] at this; cases this
    have e2 : a.f1.toList = b.f1.toList := by
      apply bytesLess_eq_of
      · cases h4 : Op.bytesLess a.f1.toList b.f1.toList with
        | false => rfl
        | true => have : lessB a b = true := lessB_iff.2 (.inr ⟨e, h4⟩)
                  rw [h] at this; cases this
      · cases h4 : Op.bytesLess b.f1.toList a.f1.toList with
        | false => rfl
        | true => have : lessB b a = true := lessB_iff.2 (.inr ⟨e.symm, h4⟩)
                  rw [h3] at this; cases this
    rw [keqB_iff.2 ⟨e, e2⟩] at h2
    cases h2
theorem keqB_less {a b : BLn} (h : keqB a b = true) (c : BLn) : lessB a c = lessB b c ∧ lessB c a = lessB c b := by
  rw [keqB_iff] at h
  simp [lessB, h.1, h.2]
theorem less_not_keq {a b : BLn} (h : lessB a b = true) : keqB a b = false := by
  cases h2 : keqB a b with
  | false => rfl
  | true => rw [(keqB_less h2 b).1, lessB_irrefl] at h; cases h
theorem keqB_symm {a b : BLn} (h : keqB a b = true) : keqB b a = true := by rw [keqB_iff] at h ⊢; exact ⟨h.1.symm, h.2.symm⟩
theorem keqB_comm (a b : BLn) : keqB a b = keqB b a := Bool.eq_iff_iff.2 ⟨keqB_symm, keqB_symm⟩
theorem keqB_refl (a : BLn) : keqB a a = true := by simp [keqB]
theorem cmp_or_ev (x y : Int) : Ev (fun k => cmp_Or_int.f k [x, y]) (if x = 0 then y else x) := by
  unfold cmp_Or_int.f
  refine Ev.step (fun k => cmp_Or_int.l0.eq_2 _ _ _ _ k) (Ev.pos (by simp) (Ev.pos (by decide) (Ev.pos (by simp) ?_)))
  have e0 : rd [x, y] 0 = x := rfl
  rw [e0]
  by_cases h : x = 0
  · refine Ev.pos h ?_
    rw [if_pos h, show wrap64 (0 + 1) = 1 from wrap64_of (by decide) (by decide)]
    refine Ev.step (fun k => cmp_Or_int.l0.eq_2 _ _ _ _ k) (Ev.pos (by simp) (Ev.pos (by decide) (Ev.pos (by simp) ?_)))
    have e1 : rd [x, y] 1 = y := rfl
    rw [e1]
    by_cases h2 : y = 0
    · refine Ev.pos h2 ?_
      rw [show wrap64 (1 + 1) = 2 from wrap64_of (by decide) (by decide), h2]
      exact Ev.step (fun k => cmp_Or_int.l0.eq_2 _ _ _ _ k) (Ev.neg (by simp) (Ev.now _))
    · exact Ev.neg h2 (Ev.now _)
  · rw [if_neg h]
    exact Ev.neg h (Ev.now _)
theorem cmpS_ev (a b : ByteArray) : cmp_Compare_string.f a b = some (cmpS a.toList b.toList) := by
  unfold cmp_Compare_string.f cmp_isNaN_string.f cmpS
  simp only [bne_self_eq_false, Option.bind_some, Bool.false_eq_true, if_false]
  split
  · rfl
  · split <;> rfl
theorem cmpB_ev (a b : BLn) : Ev (fun k => impl_compareBlocks.f k a.f0 a.f1 a.f2 b.f0 b.f1 b.f2) (cmpB a b) := by
  unfold impl_compareBlocks.f
  simp only [cmpS_ev, Option.bind_some]
  refine Ev.bind (cmp_or_ev _ _) ((Ev.now _).eq rfl)
theorem before_ev (a b : BLn) : spec_l29Before.f a.f0 a.f1 a.f2 b.f0 b.f1 b.f2 = some (lessB a b) := by
  unfold spec_l29Before.f lessB
  by_cases h : Op.bytesLess a.f0.toList b.f0.toList = true
  · rw [if_pos h, h, Bool.true_or]
  · rw [if_neg h]
    have h' : Op.bytesLess a.f0.toList b.f0.toList = false := by simpa using h
    rw [h', Bool.false_or]
    by_cases h2 : a.f0.toList = b.f0.toList
    · rw [if_pos h2]; simp [h2]
    · rw [if_neg h2]; simp [h2]
/-! ### validity -/
def plainB (s : ByteArray) : Bool := allF (fun i => !decide (bt s i = 10)) s.size 0
def vB (b : BLn) : Bool := plainB b.f2 && (nameB b.f0 && (nameB b.f1 && decide (b.f2.size ≤ 400)))
theorem specOne_ev (b : BLn) (hb : b.f2.size ≤ 9000000000000000000) : Ev (fun k => spec_l29One.f k b.f0 b.f1 b.f2) (vB b) := by
  unfold spec_l29One.f vB plainB
  refine Ev.allR (L := fun k i => spec_l29One.l0 k i b.f0 b.f1 b.f2) _ b.f2.size _ ?_ ?_
  · refine Ev.step (fun k => spec_l29One.l0.eq_2 _ _ _ _ k) (Ev.neg (by omega) (Ev.bind (specName_ev _) ?_))
    by_cases h : nameB b.f0 = true
    · refine Ev.pos h (Ev.bind (specName_ev _) ?_)
      by_cases h2 : nameB b.f1 = true
      · refine Ev.pos h2 ((Ev.now _).eq ?_)
        rw [h, h2]
        simp
        omega
      · exact Ev.neg h2 ((Ev.now _).eq (by simp [h2]))
    · exact Ev.neg h ((Ev.now _).eq (by simp [h]))
  · intro i hi r hr
    refine Ev.step (fun k => spec_l29One.l0.eq_2 _ _ _ _ k) (Ev.pos (by omega) (Ev.pos (by omega) ?_))
    rw [wrap64_up (by omega)]
    by_cases h : bt b.f2 i = 10
    · exact Ev.pos h ((Ev.now _).eq (by simp [h]))
    · exact Ev.neg h (hr.eq (by simp [h]))
theorem plain_no (s : ByteArray) (h : plainB s = true) : ¬ (0 ≤ Lib.indexByte s.data.toList 10) := by
  intro h0
  obtain ⟨o, ho⟩ : ∃ o : Nat, Lib.indexByte s.data.toList 10 = o := ⟨_, (Int.toNat_of_nonneg h0).symm⟩
  have h1 := (Lib.indexByte_some ho).1
  have hlt : o < s.data.toList.length := by
    rcases Nat.lt_or_ge o s.data.toList.length with h2 | h2
    · exact h2
    · rw [List.getElem?_eq_none h2] at h1; cases h1
  rw [data_length] at hlt
  unfold plainB at h
  rw [allF_iff] at h
  have h2 := h o (Nat.zero_le _) (by omega)
  have h3 : bt s o = 10 := by
    unfold bt
    rw [dif_pos (by simpa using hlt)]
    simp only [Int.toNat_natCast]
    have h4 : s[o] = 10 := by
      rw [List.getElem?_eq_getElem (by rw [data_length]; exact hlt)] at h1
      injection h1
    rw [h4]
    rfl
  rw [h3] at h2
  simp at h2
theorem implOne_ev (b : BLn) (h : vB b = true) : Ev (fun k => impl_ValidBlock.f k b.f0 b.f1 b.f2) true := by
  unfold vB at h
  simp only [Bool.and_eq_true, decide_eq_true_eq] at h
  obtain ⟨h1, h2, h3, h4⟩ := h
  unfold impl_ValidBlock.f
  refine Ev.bind ((implName_ev _).eq h2) (Ev.pos rfl (Ev.bind ((implName_ev _).eq h3) (Ev.pos rfl (Ev.pos (by omega) ?_))))
  refine (Ev.now true).congr fun k => ?_
  unfold strings_Contains.f
  rw [if_pos rfl]
  simp [plain_no b.f2 h1]
structure VL (l : List BLn) : Prop where
  len : l.length ≤ 32
  all : ∀ b ∈ l, vB b = true
  srt : l.Pairwise (fun a b => lessB a b = true)
theorem vB_size {b : BLn} (h : vB b = true) : b.f2.size ≤ 400 := by
  unfold vB at h
  simp only [Bool.and_eq_true, decide_eq_true_eq] at h
  exact h.2.2.2
theorem VL.lt {l : List BLn} (V : VL l) {i j : Nat} (h : i < j) (hj : j < l.length) : lessB (bAt l i) (bAt l j) = true := by
  rw [bAt_get l i (by omega), bAt_get l j hj]
  exact List.pairwise_iff_getElem.1 V.srt i j (by omega) hj h
theorem VL.at_ {l : List BLn} (V : VL l) {i : Nat} (h : i < l.length) : vB (bAt l i) = true := V.all _ (bAt_mem l i h)
theorem specOk_ev (l : List BLn) (V : VL l) : Ev (fun k => spec_l29Ok.f k l) true := by
  have hl := V.len
  unfold spec_l29Ok.f
  refine EvP.ev_of (EvP.up (fun k (_ : Unit) i => spec_l29Ok.l0 k l i) l.length (fun _ _ => True) _ ?_ ?_ () trivial)
  · exact fun _ _ => EvP.step (fun k => spec_l29Ok.l0.eq_2 _ _ k) (EvP.neg (by omega) (EvP.now _ (by simp; omega)))
  · intro i _ hi _ ih
    refine EvP.step (fun k => spec_l29Ok.l0.eq_2 _ _ k) (EvP.pos (by omega) (EvP.pos (by omega) ?_))
    simp only [rdB]
    refine EvP.ev ((specOne_ev (bAt l i) (by have := vB_size (V.at_ hi); omega)).eq (V.at_ hi)) (EvP.pos rfl ?_)
    rw [wrap64_up (by omega)]
    refine EvP.ite (fun h0 => ?_) (fun _ => ih () trivial)
    rw [wrap64_dn (by omega) (by omega)]
    refine EvP.pos (by omega) (EvP.pos (by omega) ?_)
    simp only [rdB]
    refine EvP.opt (before_ev _ _) ?_
    exact EvP.pos (V.lt (by omega) hi) (ih () trivial)
theorem implOk_ev (l : List BLn) (V : VL l) : Ev (fun k => impl_ValidBlocks.f k l) true := by
  have hl := V.len
  unfold impl_ValidBlocks.f
  refine Ev.neg (by omega) ?_
  refine EvP.ev_of (EvP.up (fun k (_ : Unit) i => impl_ValidBlocks.l0 k l l (l.length : Int) i) l.length (fun _ _ => True) _ ?_ ?_ () trivial)
  · exact fun _ _ => EvP.step (fun k => impl_ValidBlocks.l0.eq_2 _ _ _ _ k) (EvP.neg (by omega) (EvP.now _ rfl))
  · intro i _ hi _ ih
    refine EvP.step (fun k => impl_ValidBlocks.l0.eq_2 _ _ _ _ k) (EvP.pos (by omega) (EvP.pos (by omega) (EvP.pos (by omega) ?_)))
    simp only [rdB]
    refine EvP.ev (implOne_ev (bAt l i) (V.at_ hi)) (EvP.pos rfl ?_)
    rw [wrap64_up (by omega)]
    refine EvP.ite (fun h0 => ?_) (fun _ => ih () trivial)
    rw [wrap64_dn (by omega) (by omega)]
    refine EvP.pos (by omega) (EvP.pos (by omega) ?_)
    simp only [rdB]
    refine EvP.ev (cmpB_ev _ _) ?_
    have := cmpB_lt.2 (V.lt (i := i - 1) (j := i) (by omega) hi)
    exact EvP.neg (by omega) (ih () trivial)
/-! ### a list with one more block -/
def ins : List BLn → BLn → List BLn
  | [], b => [b]
  | x :: t, b => if lessB x b = true then x :: ins t b else if keqB x b = true then b :: t else b :: x :: t
theorem mem_ins {l : List BLn} {b y : BLn} (h : y ∈ ins l b) : y = b ∨ y ∈ l := by
  induction l with
  | nil => simp [ins] at h; exact .inl h
  | cons x t ih =>
    simp only [ins] at h
    split at h
    · rcases List.mem_cons.1 h with rfl | h
      · exact .inr (List.mem_cons_self ..)
      · exact (ih h).imp id (List.mem_cons_of_mem _)
    · split at h
      · rcases List.mem_cons.1 h with rfl | h
        · exact .inl rfl
        · exact .inr (List.mem_cons_of_mem _ h)
      · rcases List.mem_cons.1 h with rfl | h
        · exact .inl rfl
        · exact .inr h
theorem ins_mem (l : List BLn) (b : BLn) : b ∈ ins l b := by
  induction l with
  | nil => simp [ins]
  | cons x t ih =>
    simp only [ins]
    split
    · exact List.mem_cons_of_mem _ ih
    · split <;> exact List.mem_cons_self ..
theorem ins_keep {l : List BLn} {b y : BLn} (h : y ∈ l) (hk : keqB y b = false) : y ∈ ins l b := by
  induction l with
  | nil => cases h
  | cons x t ih =>
    simp only [ins]
    split
    · rcases List.mem_cons.1 h with rfl | h
      · exact List.mem_cons_self ..
      · exact List.mem_cons_of_mem _ (ih h)
    · split
      · rename_i h2
        rcases List.mem_cons.1 h with rfl | h
        · rw [hk] at h2; cases h2
        · exact List.mem_cons_of_mem _ h
      · exact List.mem_cons_of_mem _ h
theorem ins_len (l : List BLn) (b : BLn) : (ins l b).length ≤ l.length + 1 := by
  induction l with
  | nil => simp [ins]
  | cons x t ih =>
    simp only [ins]
    split
    · simp; omega
    · split <;> simp
theorem ins_srt {l : List BLn} (b : BLn) (h : l.Pairwise (fun a b => lessB a b = true)) : (ins l b).Pairwise (fun a b => lessB a b = true) := by
  induction l with
  | nil => simp [ins]
  | cons x t ih =>
    obtain ⟨h1, h2⟩ := List.pairwise_cons.1 h
    simp only [ins]
    split
    · rename_i h3
      refine List.pairwise_cons.2 ⟨fun y hy => ?_, ih h2⟩
      rcases mem_ins hy with rfl | hy
      · exact h3
      · exact h1 y hy
    · rename_i h3
      have h3' : lessB x b = false := by simpa using h3
      split
      · rename_i h4
        exact List.pairwise_cons.2 ⟨fun y hy => by rw [← (keqB_less h4 y).1]; exact h1 y hy, h2⟩
      · rename_i h4
        have h5 := lessB_tri h3' (by simpa using h4)
        refine List.pairwise_cons.2 ⟨fun y hy => ?_, h⟩
        rcases List.mem_cons.1 hy with rfl | hy
        · exact h5
        · exact lessB_trans h5 (h1 y hy)
theorem ins_VL {l : List BLn} {b : BLn} (V : VL l) (hb : vB b = true) (hl : l.length < 32) : VL (ins l b) :=
  ⟨by have := ins_len l b; omega, fun y hy => (mem_ins hy).elim (fun e => e ▸ hb) (V.all y), ins_srt b V.srt⟩
def putR : List BLn → BLn → Bool → List BLn
  | [], b, d => if d = true then [] else [b]
  | x :: t, b, d => (if (!d && !lessB x b) = true then [b] else []) ++ ((if keqB x b = true then [] else [x]) ++ putR t b (d || !lessB x b))
theorem putR_true {t : List BLn} {b : BLn} (h : ∀ y ∈ t, lessB b y = true) : putR t b true = t := by
  induction t with
  | nil => rfl
  | cons x t ih =>
    have h1 := h x (List.mem_cons_self ..)
    have h2 : keqB x b = false := by rw [keqB_comm]; exact less_not_keq h1
    simp [putR, h2, ih (fun y hy => h y (List.mem_cons_of_mem _ hy))]
theorem putR_ins {l : List BLn} {b : BLn} (h : l.Pairwise (fun a b => lessB a b = true)) : putR l b false = ins l b := by
  induction l with
  | nil => rfl
  | cons x t ih =>
    obtain ⟨h1, h2⟩ := List.pairwise_cons.1 h
    by_cases h3 : lessB x b = true
    · simp [putR, ins, h3, less_not_keq h3, ih h2]
    · have h3' : lessB x b = false := by simpa using h3
      by_cases h4 : keqB x b = true
      · simp only [putR, ins, h3', h4, if_true, Bool.false_eq_true, if_false, Bool.not_false, Bool.and_self, Bool.or_true]
        rw [putR_true fun y hy => by rw [← (keqB_less h4 y).1]; exact h1 y hy]
        simp
      · have h4' : keqB x b = false := by simpa using h4
        have h5 := lessB_tri h3' h4'
        simp only [putR, ins, h3', h4', if_true, Bool.false_eq_true, if_false, Bool.not_false, Bool.and_self, Bool.or_true]
        rw [putR_true fun y hy => lessB_trans h5 (h1 y hy)]
        simp
theorem drop_at {l : List BLn} {i : Nat} (h : i < l.length) : l.drop i = bAt l i :: l.drop (i + 1) := by
  rw [List.drop_eq_getElem_cons h, bAt_get l i h]
theorem put_ev (l : List BLn) (b : BLn) (hl : l.length ≤ 32) (hs : l.Pairwise (fun a b => lessB a b = true)) : Ev (fun k => spec_l29Put.f k l b.f0 b.f1 b.f2) (ins l b) := by
  unfold spec_l29Put.f
  rw [← putR_ins hs]
  refine EvP.ev_of ?_
  have key := EvP.up (fun k (s : List BLn × Bool) i => spec_l29Put.l0 k l s.1 s.2 i b.f0 b.f1 b.f2) l.length (fun s i => s.1.length ≤ 2 * i ∧ s.1 ++ putR (l.drop i) b s.2 = putR l b false) (fun x => x = putR l b false) ?_ ?_ ([], false) ⟨by simp, by simp⟩
  · exact key
  · rintro ⟨out, d⟩ ⟨h1, h2⟩
    rw [List.drop_length] at h2
    dsimp only at h1 h2 ⊢
    refine EvP.step (fun k => spec_l29Put.l0.eq_2 _ _ _ _ _ _ _ k) (EvP.neg (by omega) ?_)
    cases d with
    | true => exact EvP.pos rfl (EvP.now _ (by rw [← h2]; simp [putR]))
    | false => exact EvP.neg (by decide) (EvP.pos (by omega) (EvP.now _ (by rw [← h2]; simp [putR])))
  · rintro i ⟨out, d⟩ hi ⟨h1, h2⟩ ih
    dsimp only at h1 h2 ⊢
    rw [drop_at hi] at h2
    have hj : ∀ (x : Bool), x = (!d && !lessB (bAt l i) b) → EvP (fun k => spec_l29Put.j1 k l out d (i : Int) x b.f0 b.f1 b.f2) (fun y => y = putR l b false) := by
      intro x hx
      refine EvP.step (fun k => spec_l29Put.j1.eq_2 _ _ _ _ _ _ _ _ k) ?_
      simp only [putR, ← hx] at h2
      have hw : wrap64 ((i : Int) + 1) = ((i + 1 : Nat) : Int) := wrap64_up (by omega)
      rw [hw]
      have hd : ∀ d' out', d' = (d || !lessB (bAt l i) b) → out'.length ≤ 2 * i + 1 → out' ++ ((if keqB (bAt l i) b = true then [] else [bAt l i]) ++ putR (l.drop (i + 1)) b d') = putR l b false →
          EvP (fun k => if 0 ≤ (i : Int) then if (i : Int) < (l.length : Int) then if ((rd_T27 l (i : Int)).f0).toList = b.f0.toList then if ((rd_T27 l (i : Int)).f1).toList = b.f1.toList then spec_l29Put.l0 k l out' d' ((i + 1 : Nat) : Int) b.f0 b.f1 b.f2 else if out'.length < 2932031007402 then spec_l29Put.l0 k l (out' ++ [⟨(rd_T27 l (i : Int)).f0, (rd_T27 l (i : Int)).f1, (rd_T27 l (i : Int)).f2⟩]) d' ((i + 1 : Nat) : Int) b.f0 b.f1 b.f2 else none else if out'.length < 2932031007402 then spec_l29Put.l0 k l (out' ++ [⟨(rd_T27 l (i : Int)).f0, (rd_T27 l (i : Int)).f1, (rd_T27 l (i : Int)).f2⟩]) d' ((i + 1 : Nat) : Int) b.f0 b.f1 b.f2 else none else none else none) (fun y => y = putR l b false) := by
        intro d' out' hd' ho he
        refine EvP.pos (by omega) (EvP.pos (by omega) ?_)
        simp only [rdB]
        by_cases h5 : keqB (bAt l i) b = true
        · obtain ⟨h6, h7⟩ := keqB_iff.1 h5
          refine EvP.pos h6 (EvP.pos h7 (ih (out', d') ⟨by dsimp only; omega, ?_⟩))
          rw [if_pos h5] at he
          simpa using he
        · have hn : ¬ ((bAt l i).f0.toList = b.f0.toList ∧ (bAt l i).f1.toList = b.f1.toList) := fun e => h5 (keqB_iff.2 e)
          have hgo : EvP (fun k => spec_l29Put.l0 k l (out' ++ [bAt l i]) d' ((i + 1 : Nat) : Int) b.f0 b.f1 b.f2) (fun y => y = putR l b false) :=
            ih (out' ++ [bAt l i], d') ⟨by simp; omega, by rw [if_neg h5] at he; simpa using he⟩
          by_cases h6 : (bAt l i).f0.toList = b.f0.toList
          · exact EvP.pos h6 (EvP.neg (fun h7 => hn ⟨h6, h7⟩) (EvP.pos (by omega) hgo))
          · exact EvP.neg h6 (EvP.pos (by omega) hgo)
      cases x with
      | true =>
        refine EvP.pos rfl (EvP.pos (by omega) ?_)
        obtain ⟨e1, e2⟩ : d = false ∧ lessB (bAt l i) b = false := by
          cases d <;> cases hq : lessB (bAt l i) b <;> simp [hq] at hx ⊢
        simp only [Option.bind_some]
        exact hd true (out ++ [b]) (by rw [e2]; cases d <;> rfl) (by simp; omega) (by rw [← h2, e1, e2]; simp)
      | false =>
        refine EvP.neg (by decide) ?_
        have hx' : d = (d || !lessB (bAt l i) b) := by
          cases d <;> cases hq : lessB (bAt l i) b <;> simp [hq] at hx ⊢
        rw [← hx'] at h2
        exact hd d out hx' (by omega) (by rw [← h2]; simp)
    refine EvP.step (fun k => spec_l29Put.l0.eq_2 _ _ _ _ _ _ _ k) (EvP.pos (by omega) ?_)
    cases d with
    | true => exact EvP.pos rfl (hj false (by simp))
    | false =>
      refine EvP.neg (by decide) (EvP.pos (by omega) ?_)
      simp only [rdB]
      exact EvP.opt (before_ev _ _) (hj _ (by simp))
end Go.Proofs.Ytocaadjpibepaaa.P

/- Plain words on blocks, further: the search, and what the program's functions on blocks come to on valid lists. No condition beyond the lists being valid. -/
namespace Go.Proofs.Ytocaadjpibepaaa.P
open Go.RowKit Go.Proofs.YtocaadjpibepaaaW.PrintWords Go.Proofs.YtocaadjpibepaaaW.PrintLast Go.Proofs.YtocaadjpibepaaaW.PrintMore
set_option linter.unusedVariables false
set_option linter.unusedSimpArgs false
def pos : List BLn → BLn → Nat
  | [], _ => 0
  | x :: t, b => if lessB x b = true then pos t b + 1 else 0
theorem pos_le (l : List BLn) (b : BLn) : pos l b ≤ l.length := by
  induction l with
  | nil => simp [pos]
  | cons x t ih => simp only [pos, List.length_cons]; split <;> omega
theorem less_pos {l : List BLn} {b : BLn} (h : l.Pairwise (fun a b => lessB a b = true)) : ∀ i, i < l.length → (lessB (bAt l i) b = true ↔ i < pos l b) := by
  induction l with
  | nil => intro i hi; simp at hi
  | cons x t ih =>
    obtain ⟨h1, h2⟩ := List.pairwise_cons.1 h
    intro i hi
    cases i with
    | zero =>
      have : bAt (x :: t) 0 = x := rfl
      rw [this]
      simp only [pos]
      split <;> simp_all
    | succ i =>
      have e : bAt (x :: t) (i + 1) = bAt t i := by simp [bAt]
      have hi' : i < t.length := by simpa using hi
      rw [e, ih h2 i hi']
      simp only [pos]
      split
      · omega
      · rename_i h3
        constructor
        · intro h4
          have := (ih h2 i hi').2 h4
          exact absurd (lessB_trans (h1 _ (bAt_mem t i hi')) this) h3
        · intro h4; omega
theorem ins_pos (l : List BLn) (b : BLn) : ins l b = if pos l b < l.length ∧ keqB (bAt l (pos l b)) b = true then l.set (pos l b) b else l.take (pos l b) ++ b :: l.drop (pos l b) := by
  induction l with
  | nil => simp [ins, pos]
  | cons x t ih =>
    by_cases h : lessB x b = true
    · have hp : pos (x :: t) b = pos t b + 1 := by simp [pos, h]
      have hi : ins (x :: t) b = x :: ins t b := by simp [ins, h]
      have e : bAt (x :: t) (pos t b + 1) = bAt t (pos t b) := by simp [bAt]
      rw [hp, hi, e, ih]
      by_cases h2 : pos t b < t.length ∧ keqB (bAt t (pos t b)) b = true
      · rw [if_pos h2, if_pos ⟨by simp; exact h2.1, h2.2⟩]; simp
      · rw [if_neg h2, if_neg (fun h3 => h2 ⟨by simpa using h3.1, h3.2⟩)]; simp
    · have hp : pos (x :: t) b = 0 := by simp [pos, h]
      have e : bAt (x :: t) 0 = x := rfl
      rw [hp, e]
      by_cases h2 : keqB x b = true
      · rw [if_pos ⟨by simp, h2⟩]; simp [ins, h, h2]
      · rw [if_neg (fun h3 => h2 h3.2)]; simp [ins, h, h2]
def hasB (l : List BLn) (b : BLn) : Bool := decide (pos l b < l.length ∧ keqB (bAt l (pos l b)) b = true)
theorem search_ev (l : List BLn) (b : BLn) (hl : l.length ≤ 1000000) (h : l.Pairwise (fun a b => lessB a b = true)) : Ev (fun k => impl_Block_18_at_impl_compareBlocks.f k l b.f0 b.f1 b.f2) ((pos l b : Int), hasB l b) := by
  unfold impl_Block_18_at_impl_compareBlocks.f
  have hp := pos_le l b
  have key : ∀ (d i j : Nat), i + d = j → i ≤ pos l b → pos l b ≤ j → j ≤ l.length → Ev (fun k => impl_Block_18_at_impl_compareBlocks.l0 k l (l.length : Int) (i : Int) (j : Int) b.f0 b.f1 b.f2) ((pos l b : Int), hasB l b) := by
    intro d
    induction d using Nat.strongRecOn with
    | _ d ih =>
    intro i j hd h1 h2 h3
    refine Ev.step (fun k => impl_Block_18_at_impl_compareBlocks.l0.eq_2 _ _ _ _ _ _ _ k) ?_
    by_cases hij : i < j
    · refine Ev.pos (by omega) ?_
      have hm : wrap64 ((IntKind.u64.wrap (wrap64 ((i : Int) + (j : Int)))) / 2) = (((i + j) / 2 : Nat) : Int) := by
        rw [wrap64_of (x := (i : Int) + j) (by omega) (by omega)]
        have : IntKind.u64.wrap ((i : Int) + j) = (i : Int) + j := by simp [IntKind.wrap, IntKind.bits, IntKind.signed]; omega
        rw [this, wrap64_of (by omega) (by omega)]
        omega
      rw [hm]
      refine Ev.pos (by omega) (Ev.pos (by omega) ?_)
      simp only [rdB]
      refine Ev.bind (cmpB_ev _ _) ?_
      have hless := less_pos (b := b) h ((i + j) / 2) (by omega)
      by_cases hc : cmpB (bAt l ((i + j) / 2)) b < 0
      · refine Ev.pos hc ?_
        have := hless.1 (cmpB_lt.1 hc)
        rw [wrap64_up (by omega)]
        exact ih (j - ((i + j) / 2 + 1)) (by omega) _ _ (by omega) (by omega) h2 h3
      · refine Ev.neg hc ?_
        have : ¬ (i + j) / 2 < pos l b := fun h5 => hc (cmpB_lt.2 (hless.2 h5))
        exact ih ((i + j) / 2 - i) (by omega) _ _ (by omega) h1 (by omega) (by omega)
    · refine Ev.neg (by omega) ?_
      have e : i = pos l b := by omega
      subst e
      by_cases h4 : pos l b < l.length
      · refine Ev.pos (by omega) (Ev.pos (by omega) (Ev.pos (by omega) ?_))
        simp only [rdB]
        refine Ev.bind (cmpB_ev _ _) ((Ev.now _).eq ?_)
        congr 1
        unfold hasB
        rw [Bool.eq_iff_iff, beq_iff_eq, decide_eq_true_iff, cmpB_zero]
        simp [h4]
      · exact Ev.neg (by omega) ((Ev.now _).eq (by simp [hasB, h4]))
  exact key l.length 0 l.length (by omega) (by omega) hp (Nat.le_refl _)
theorem clone_ev (l : List BLn) (hl : l.length ≤ 1000) : impl_Block_21.f l = some l := by
  unfold impl_Block_21.f
  simp only [Option.bind_some, List.length_nil, List.nil_append]
  rw [if_pos (by omega)]
theorem with_ev (l : List BLn) (b : BLn) (hl : l.length ≤ 1000) (h : l.Pairwise (fun a b => lessB a b = true)) : Ev (fun k => impl_withBlock.f k l b.f0 b.f1 b.f2) (ins l b) := by
  have hp := pos_le l b
  unfold impl_withBlock.f
  refine Ev.bind (search_ev l b (by omega) h) (Ev.opt (clone_ev l hl) ?_)
  dsimp only
  rw [ins_pos]
  by_cases h2 : pos l b < l.length ∧ keqB (bAt l (pos l b)) b = true
  · rw [if_pos h2]
    refine Ev.pos (by simp only [hasB, decide_eq_true_iff]; exact h2) (Ev.pos (by omega) (Ev.pos (by omega) ((Ev.now _).eq ?_)))
    simp
  · rw [if_neg h2]
    refine Ev.neg (by simp only [hasB, decide_eq_true_iff]; exact h2) ?_
    refine (Ev.now _).congr fun k => ?_
    unfold impl_Block_29.f
    rw [if_pos ⟨by omega, by omega, rfl, by omega⟩]
    simp
theorem implPut_ev (l : List BLn) (b : BLn) (V : VL l) (hb : vB b = true) (hl : l.length < 32) : Ev (fun k => impl_PutBlock.f k l b.f0 b.f1 b.f2) (ins l b, 0) := by
  have h1 := ins_len l b
  unfold impl_PutBlock.f
  refine Ev.bind (implOk_ev l V) (Ev.pos rfl (Ev.bind (implOne_ev b hb) ?_))
  refine Ev.step (fun k => impl_PutBlock.j0.eq_2 _ _ _ _ _ k) (Ev.neg (by decide) (Ev.bind (with_ev l b (by omega) V.srt) (Ev.neg (by omega) (Ev.now _))))
theorem specPut_ev (l : List BLn) (b : BLn) (V : VL l) (hs : b.f2.size ≤ 9000000000000000000) (hl : l.length < 32) : Ev (fun k => spec_PutBlock.f k l b.f0 b.f1 b.f2) (if vB b = true then (ins l b, 0) else ([], 1)) := by
  have h1 := ins_len l b
  unfold spec_PutBlock.f
  refine Ev.bind (specOk_ev l V) (Ev.pos rfl (Ev.bind (specOne_ev b hs) ?_))
  refine Ev.step (fun k => spec_PutBlock.j0.eq_2 _ _ _ _ _ k) ?_
  by_cases h : vB b = true
  · rw [if_pos h, h]
    exact Ev.neg (by decide) (Ev.bind (put_ev l b (by omega) V.srt) (Ev.neg (by omega) (Ev.now _)))
  · rw [if_neg h]
    exact Ev.pos (by simpa using h) (Ev.now _)
theorem mem_has {l : List BLn} {b y : BLn} (h : l.Pairwise (fun a b => lessB a b = true)) (hy : y ∈ l) (hk : keqB y b = true) : pos l b < l.length ∧ bAt l (pos l b) = y := by
  induction l with
  | nil => cases hy
  | cons x t ih =>
    obtain ⟨h1, h2⟩ := List.pairwise_cons.1 h
    simp only [pos]
    rcases List.mem_cons.1 hy with rfl | hy
    · have : ¬ lessB y b = true := fun h3 => by rw [less_not_keq h3] at hk; cases hk
      rw [if_neg this]
      exact ⟨by simp, rfl⟩
    · have h3 : lessB x b = true := by rw [← (keqB_less hk x).2]; exact h1 y hy
      rw [if_pos h3]
      obtain ⟨h4, h5⟩ := ih h2 hy
      exact ⟨by simp; exact h4, by simpa [bAt] using h5⟩
theorem named_ev (l : List BLn) (y : BLn) (V : VL l) (hy : y ∈ l) : Ev (fun k => impl_BlockNamed.f k l y.f0 y.f1) (y.f2, 0) := by
  have hb : keqB y ⟨y.f0, y.f1, (⟨#[]⟩ : ByteArray)⟩ = true := by simp [keqB]
  obtain ⟨h1, h2⟩ := mem_has V.srt hy hb
  have hl := V.len
  unfold impl_BlockNamed.f
  refine Ev.bind (implOk_ev l V) (Ev.pos rfl ?_)
  refine Ev.bind (search_ev l ⟨y.f0, y.f1, (⟨#[]⟩ : ByteArray)⟩ (by omega) V.srt) ?_
  dsimp only
  refine Ev.pos (by simp only [hasB, decide_eq_true_iff]; exact ⟨h1, by rw [h2]; exact hb⟩) (Ev.pos (by omega) (Ev.pos (by omega) ((Ev.now _).eq ?_)))
  rw [rdB, h2]
theorem drop_ev (l : List BLn) (y : BLn) (V : VL l) (hy : y ∈ l) : Ev (fun k => impl_DropBlock.f k l y.f0 y.f1) (l.eraseIdx (pos l ⟨y.f0, y.f1, (⟨#[]⟩ : ByteArray)⟩), 0) := by
  have hb : keqB y ⟨y.f0, y.f1, (⟨#[]⟩ : ByteArray)⟩ = true := by simp [keqB]
  obtain ⟨h1, h2⟩ := mem_has V.srt hy hb
  have hl := V.len
  unfold impl_DropBlock.f
  refine Ev.bind (implOk_ev l V) (Ev.pos rfl ?_)
  refine Ev.bind (search_ev l ⟨y.f0, y.f1, (⟨#[]⟩ : ByteArray)⟩ (by omega) V.srt) ?_
  dsimp only
  refine Ev.pos (by simp only [hasB, decide_eq_true_iff]; exact ⟨h1, by rw [h2]; exact hb⟩) (Ev.opt (clone_ev l (by omega)) ?_)
  refine Ev.opt (a := l.eraseIdx (pos l ⟨y.f0, y.f1, (⟨#[]⟩ : ByteArray)⟩)) ?_ (Ev.now _)
  unfold impl_Block_20.f
  rw [wrap64_up (by omega), if_pos ⟨by omega, by omega, by omega⟩]
  simp
theorem ins_erase {l : List BLn} {b c : BLn} (h : l.Pairwise (fun a b => lessB a b = true)) (hn : ∀ x ∈ l, keqB x b = false) (hc : keqB c b = true) : (ins l b).eraseIdx (pos (ins l b) c) = l := by
  induction l with
  | nil =>
    simp only [ins, pos]
    have : ¬ lessB b c = true := by rw [(keqB_less hc b).2, lessB_irrefl]; decide
    rw [if_neg this]; rfl
  | cons x t ih =>
    obtain ⟨h1, h2⟩ := List.pairwise_cons.1 h
    have hx := hn x (List.mem_cons_self ..)
    simp only [ins]
    by_cases h3 : lessB x b = true
    · rw [if_pos h3]
      simp only [pos]
      rw [if_pos (by rw [(keqB_less hc x).2]; exact h3)]
      simp only [List.eraseIdx_cons_succ]
      rw [ih h2 (fun y hy => hn y (List.mem_cons_of_mem _ hy))]
    · rw [if_neg h3, if_neg (by rw [hx]; decide)]
      simp only [pos]
      have : ¬ lessB b c = true := by rw [(keqB_less hc b).2, lessB_irrefl]; decide
      rw [if_neg this]; rfl
/-- All of m, one after another. -/
def insAll (l m : List BLn) : List BLn := m.foldl ins l
theorem merge_ev (l m : List BLn) (V : VL l) (W : VL m) (hl : l.length + m.length ≤ 32) : EvP (fun k => impl_MergeBlocks.f k l m) (fun r => r.2 = 0 ∧ VL r.1 ∧ r.1.length ≤ l.length + m.length ∧ ∀ y ∈ m, y ∈ r.1) := by
  unfold impl_MergeBlocks.f
  refine EvP.ev (implOk_ev l V) (EvP.pos rfl (EvP.ev (implOk_ev m W) ?_))
  refine EvP.step (fun k => impl_MergeBlocks.j0.eq_2 _ _ _ k) (EvP.neg (by decide) (EvP.opt (clone_ev l (by omega)) ?_))
  refine EvP.up (fun k (c : List BLn) i => impl_MergeBlocks.l0 k c m (m.length : Int) i) m.length (fun c i => VL c ∧ c.length ≤ l.length + i ∧ ∀ j, j < i → bAt m j ∈ c) _ ?_ ?_ l ⟨V, by omega, fun j hj => by omega⟩
  · rintro c ⟨h1, h2, h3⟩
    refine EvP.step (fun k => impl_MergeBlocks.l0.eq_2 _ _ _ _ k) (EvP.neg (by omega) (EvP.neg (by omega) (EvP.now _ ⟨rfl, h1, h2, fun y hy => ?_⟩)))
    obtain ⟨j, hj, rfl⟩ := List.mem_iff_getElem.1 hy
    rw [← bAt_get m j hj]
    exact h3 j hj
  · rintro i c hi ⟨h1, h2, h3⟩ ih
    refine EvP.step (fun k => impl_MergeBlocks.l0.eq_2 _ _ _ _ k) (EvP.pos (by omega) (EvP.pos (by omega) (EvP.pos (by omega) ?_)))
    simp only [rdB]
    refine EvP.ev (with_ev c (bAt m i) (by omega) h1.srt) ?_
    rw [wrap64_up (by omega)]
    have hlen := ins_len c (bAt m i)
    refine ih (ins c (bAt m i)) ⟨ins_VL h1 (W.at_ hi) (by omega), by omega, fun j hj => ?_⟩
    by_cases e : j = i
    · subst e; exact ins_mem _ _
    · exact ins_keep (h3 j (by omega)) (less_not_keq (W.lt (i := j) (j := i) (by omega) hi))
theorem kind_ev (l : List BLn) (kd : ByteArray) (V : VL l) : Ev (fun k => impl_BlocksOfKind.f k l kd) ((l.filter (fun b => b.f0.toList == kd.toList)).map (·.f1), 0) := by
  have hl := V.len
  unfold impl_BlocksOfKind.f
  refine Ev.bind (implOk_ev l V) (Ev.pos rfl ?_)
  refine EvP.ev_of ?_
  refine EvP.up (fun k (o : List ByteArray) i => impl_BlocksOfKind.l0 k kd o l (l.length : Int) i) l.length (fun o i => o.length ≤ i ∧ o ++ ((l.drop i).filter (fun b => b.f0.toList == kd.toList)).map (·.f1) = (l.filter (fun b => b.f0.toList == kd.toList)).map (·.f1)) _ ?_ ?_ [] ⟨by simp, by simp⟩
  · rintro o ⟨h1, h2⟩
    rw [List.drop_length] at h2
    exact EvP.step (fun k => impl_BlocksOfKind.l0.eq_2 _ _ _ _ _ k) (EvP.neg (by omega) (EvP.now _ (by rw [← h2]; simp)))
  · rintro i o hi ⟨h1, h2⟩ ih
    rw [drop_at hi] at h2
    refine EvP.step (fun k => impl_BlocksOfKind.l0.eq_2 _ _ _ _ _ k) (EvP.pos (by omega) (EvP.pos (by omega) (EvP.pos (by omega) ?_)))
    simp only [rdB]
    rw [wrap64_up (by omega)]
    by_cases h3 : (bAt l i).f0.toList = kd.toList
    · refine EvP.pos h3 (EvP.pos (by omega) (ih _ ⟨by simp; omega, ?_⟩))
      rw [← h2]
      simp [h3]
    · refine EvP.neg h3 (ih _ ⟨by omega, ?_⟩)
      rw [← h2]
      simp [h3]
theorem same_ev (l : List BLn) (hl : l.length ≤ 1000) : Ev (fun k => spec_SameBlocks.f k l l) true := by
  unfold spec_SameBlocks.f
  refine Ev.bind ?_ (Ev.now _)
  unfold spec_l29Same.f
  refine Ev.pos rfl (EvP.ev_of ?_)
  refine EvP.up (fun k (_ : Unit) i => spec_l29Same.l0 k l l i) l.length (fun _ _ => True) _ ?_ ?_ () trivial
  · exact fun _ _ => EvP.step (fun k => spec_l29Same.l0.eq_2 _ _ _ k) (EvP.neg (by omega) (EvP.now _ rfl))
  · intro i _ hi _ ih
    refine EvP.step (fun k => spec_l29Same.l0.eq_2 _ _ _ k) (EvP.pos (by omega) (EvP.pos (by omega) (EvP.pos (by omega) (EvP.neg (by simp) ?_))))
    rw [wrap64_up (by omega)]
    exact ih () trivial
end Go.Proofs.Ytocaadjpibepaaa.P

/- Plain words on the drawing of blocks: what is drawn is a valid list of at most five blocks of three kinds. No condition beyond the bytes being bytes. -/
namespace Go.Proofs.Ytocaadjpibepaaa.P
open Go.RowKit Go.Proofs.YtocaadjpibepaaaW.PrintWords Go.Proofs.YtocaadjpibepaaaW.PrintLast Go.Proofs.YtocaadjpibepaaaW.PrintMore
set_option linter.unusedVariables false
set_option linter.unusedSimpArgs false
abbrev NTn := S73
def nAt (l : List NTn) (i : Nat) : NTn := l.getD i z73
theorem rdN (l : List NTn) (i : Nat) : rd_T73 l (i : Int) = nAt l i := by simp [rd_T73, nAt]
theorem nAt_mem (l : List NTn) (i : Nat) (h : i < l.length) : nAt l i ∈ l := by
  have : nAt l i = l[i] := by simp [nAt, List.getD_eq_getElem?_getD, List.getElem?_eq_getElem h]
  rw [this]; exact List.getElem_mem h
/-- A note as it is drawn. -/
def drawn (x : NTn) : Prop := (-12 ≤ x.f0 ∧ x.f0 ≤ 23) ∧ (x.f1 = 1 ∨ x.f1 = 2 ∨ x.f1 = 3 ∨ x.f1 = 4 ∨ x.f1 = 6)
theorem tone_ev (a : Int) (h0 : -12 ≤ a) (h1 : a ≤ 23) : ∃ t, spec_l03Tone.f a = some t ∧ 0 ≤ t ∧ t ≤ 11 := by
  unfold spec_l03Tone.f
  have h : -11 ≤ Int.tmod a 12 ∧ Int.tmod a 12 ≤ 11 := by
    rcases Int.lt_or_le a 0 with h | h
    · have e : Int.tmod a 12 = -Int.tmod (-a) 12 := by rw [Int.neg_tmod]; omega
      have := tmod_in (x := -a) (a := 12) (by omega) (by omega)
      omega
    · have := tmod_in (x := a) (a := 12) h (by omega)
      omega
  rw [wrap64_of (by omega) (by omega)]
  have := tmod_in (x := Int.tmod a 12 + 12) (a := 12) (by omega) (by omega)
  exact ⟨_, rfl, by omega, by omega⟩
theorem floor_ev (a : Int) (h0 : -12 ≤ a) (h1 : a ≤ 23) : ∃ t, spec_l03Floor.f a = some t := by
  obtain ⟨t, e, _, _⟩ := tone_ev a h0 h1
  unfold spec_l03Floor.f
  rw [e, Option.bind_some]
  exact ⟨_, rfl⟩
theorem noteName_ev (a : Int) (h0 : -12 ≤ a) (h1 : a ≤ 23) : ∃ s, spec_l09Name.f a = some s ∧ s.size ≤ 30 := by
  obtain ⟨t, e, ht0, ht1⟩ := tone_ev a h0 h1
  obtain ⟨u, eu⟩ := floor_ev a h0 h1
  unfold spec_l09Name.f
  rw [e, Option.bind_some, spec_l03Names.f, Option.bind_some, wrap64_of (by omega) (by omega), eu]
  have hs : ((⟨#[83, 114, 82, 103, 71, 109, 77, 80, 100, 68, 110, 78]⟩ : ByteArray).size : Int) = 12 := rfl
  rw [if_pos ht0, if_pos (by omega), if_pos (by omega), Option.bind_some]
  have hx : ((⟨#[83, 114, 82, 103, 71, 109, 77, 80, 100, 68, 110, 78]⟩ : ByteArray).extract t.toNat (t + 1).toNat).size ≤ 12 := by
    rw [ByteArray.size_extract]
    have : (⟨#[83, 114, 82, 103, 71, 109, 77, 80, 100, 68, 110, 78]⟩ : ByteArray).size = 12 := rfl
    omega
  by_cases h2 : u = -1
  · rw [if_pos h2, if_pos (by omega)]
    exact ⟨_, rfl, by rw [ByteArray.size_append]; have : (⟨#[44]⟩ : ByteArray).size = 1 := rfl; omega⟩
  · rw [if_neg h2]
    by_cases h3 : u = 1
    · rw [if_pos h3, if_pos (by omega)]
      exact ⟨_, rfl, by rw [ByteArray.size_append]; have : (⟨#[39]⟩ : ByteArray).size = 1 := rfl; omega⟩
    · rw [if_neg h3]
      exact ⟨_, rfl, by omega⟩
theorem dec_small (n : Int) (h : n = 2 ∨ n = 3 ∨ n = 4 ∨ n = 6) : EvP (fun k => spec_l01Dec.f k n) (fun s => s.size ≤ 30) := by
  rcases h with rfl | rfl | rfl | rfl
  · exact ⟨⟨#[50]⟩, Ev.of (fun k => spec_l01Dec.mono _ k) (k := 9) (by kernel_rfl), by decide⟩
  · exact ⟨⟨#[51]⟩, Ev.of (fun k => spec_l01Dec.mono _ k) (k := 9) (by kernel_rfl), by decide⟩
  · exact ⟨⟨#[52]⟩, Ev.of (fun k => spec_l01Dec.mono _ k) (k := 9) (by kernel_rfl), by decide⟩
  · exact ⟨⟨#[54]⟩, Ev.of (fun k => spec_l01Dec.mono _ k) (k := 9) (by kernel_rfl), by decide⟩
theorem noteText_ev (l : List NTn) (hl : l.length ≤ 100) (h : ∀ x ∈ l, drawn x) : EvP (fun k => spec_l09Text.f k l) (fun s => s.size ≤ 10000) := by
  unfold spec_l09Text.f
  refine EvP.ite (fun _ => EvP.now _ (by decide)) (fun _ => ?_)
  refine EvP.up (fun k (s : ByteArray) i => spec_l09Text.l0 k l s i) l.length (fun s i => s.size ≤ 100 * i) _ ?_ ?_ _ (by decide)
  · intro s hs
    exact EvP.step (fun k => spec_l09Text.l0.eq_2 _ _ _ k) (EvP.neg (by omega) (EvP.now _ (by omega)))
  · intro i s hi hs ih
    have hd := h _ (nAt_mem l i hi)
    obtain ⟨nm, e, hn⟩ := noteName_ev _ hd.1.1 hd.1.2
    have hj : ∀ s' : ByteArray, s'.size ≤ 100 * i + 1 → EvP (fun k => spec_l09Text.j1 k l s' (i : Int)) (fun s => s.size ≤ 10000) := by
      intro s' hs'
      refine EvP.step (fun k => spec_l09Text.j1.eq_2 _ _ _ k) (EvP.pos (by omega) (EvP.pos (by omega) ?_))
      simp only [rdN]
      refine EvP.opt e (EvP.pos (by omega) ?_)
      rw [wrap64_up (by omega)]
      refine EvP.ite (fun _ => ih _ (by rw [ByteArray.size_append]; omega)) (fun h1 => ?_)
      refine EvP.bind (dec_small _ (by have := hd.2; omega)) fun t ht => ?_
      refine EvP.pos (by rw [ByteArray.size_append]; omega) (ih _ ?_)
      rw [ByteArray.size_append, ByteArray.size_append]; omega
    refine EvP.step (fun k => spec_l09Text.l0.eq_2 _ _ _ k) (EvP.pos (by omega) (EvP.ite (fun _ => EvP.pos (by omega) (hj _ ?_)) (fun _ => hj _ (by omega))))
    rw [ByteArray.size_append]; have : (⟨#[32]⟩ : ByteArray).size = 1 := rfl; omega
theorem minx (a b : Int) : spec_l00Min.f a b = some (if a < b then a else b) := by unfold spec_l00Min.f; split <;> rfl
theorem maxx (a b : Int) : spec_l00Max.f a b = some (if a > b then a else b) := by unfold spec_l00Max.f; split <;> rfl
theorem draw09_ev {c : List Int} (hc : Bys c) {p : Int} {n : Nat} (hp : At p n) (hn : n + 1000 ≤ 4000000000000000000) (s : Int) : EvP (fun k => spec_l09Draw.f k c p s) (fun r => r.1.length ≤ 10 ∧ (∀ x ∈ r.1, drawn x) ∧ At r.2.1 (n + 100)) := by
  obtain ⟨v, p1, s1, e1, h1, v0, v1⟩ := pick_lt hc hp (by omega) s 12 (by omega)
  obtain ⟨m, p2, s2, e2, h2, m0, m1⟩ := pick_lt hc h1 (by omega) s1 10 (by omega)
  unfold spec_l09Draw.f
  refine EvP.opt e1 (EvP.opt e2 ?_)
  dsimp only
  obtain ⟨d, rfl⟩ : ∃ d : Nat, m = d := ⟨m.toNat, by omega⟩
  refine EvP.down (fun k (t : List NTn × Int × Int × Int) i => spec_l09Draw.l0 k t.1 t.2.1 i c t.2.2.1 t.2.2.2) (fun t i => t.1.length + i ≤ 10 ∧ (∀ x ∈ t.1, drawn x) ∧ (-12 ≤ t.2.1 ∧ t.2.1 ≤ 23) ∧ At t.2.2.1 (n + 100 - 4 * i)) _ ?_ ?_ d ([], v, p2, s2) ⟨by simp; omega, by simp, by dsimp only; omega, ?_⟩
  · rintro ⟨o, v, q, t⟩ ⟨h3, h4, h5, h6⟩
    exact EvP.step (fun k => spec_l09Draw.l0.eq_2 _ _ _ _ _ _ k) (EvP.neg (by decide) (EvP.now _ ⟨by simpa using h3, h4, by simpa using h6⟩))
  · rintro i ⟨o, v, q, t⟩ ⟨h3, h4, h5, h6⟩ ih
    dsimp only at h3 h4 h5 h6 ⊢
    obtain ⟨u, p3, s3, e3, h7, u0, u1⟩ := pick_lt hc h6 (by omega) t 9 (by omega)
    obtain ⟨w, p4, s4, e4, h8, hw⟩ := among_ev hc h7 (by omega) s3 [1, 1, 2, 2, 3, 4, 6] (by simp)
    refine EvP.step (fun k => spec_l09Draw.l0.eq_2 _ _ _ _ _ _ k) (EvP.pos (by omega) (EvP.opt e3 ?_))
    dsimp only
    rw [wrap64_of (x := v + u) (by omega) (by omega), wrap64_of (x := v + u - 4) (by omega) (by omega)]
    refine EvP.opt (minx _ _) (EvP.opt (maxx _ _) (EvP.opt e4 (EvP.pos (by omega) ?_)))
    rw [wrap64_dn (by omega) (by omega)]
    have hr : ∀ z : Int, (z = if 23 < v + u - 4 then (23 : Int) else v + u - 4) → -12 ≤ (if -12 > z then (-12 : Int) else z) ∧ (if -12 > z then (-12 : Int) else z) ≤ 23 := by
      intro z hz
      split at hz <;> split <;> omega
    refine ih (o ++ [_], _, p4, s4) ⟨by simp; omega, ?_, hr _ rfl, h8.more (by omega) (by omega)⟩
    intro x hx
    rcases List.mem_append.1 hx with hx | hx
    · exact h4 x hx
    · rw [List.mem_singleton] at hx
      subst hx
      exact ⟨hr _ rfl, by simpa using hw⟩
  · exact h2.more (by omega) (by omega)
/-- A kind that is drawn. -/
def kindD (s : ByteArray) : Prop := s = ⟨#[109, 101, 108, 111, 100, 121]⟩ ∨ s = ⟨#[110, 111, 116, 101]⟩ ∨ s = ⟨#[102, 97, 99, 101]⟩
theorem drawOne_ev {c : List Int} (hc : Bys c) {p : Int} {n : Nat} (hp : At p n) (hn : n + 100000 ≤ 4000000000000000000) (s : Int) : EvP (fun k => spec_l29DrawOne.f k c p s) (fun r => kindD r.1 ∧ r.2.2.1.size ≤ 20000 ∧ At r.2.2.2.1 (n + 10000)) := by
  obtain ⟨a, p1, s1, e1, h1, ha⟩ := text_ev hc hp (by omega) s [(⟨#[109, 101, 108, 111, 100, 121]⟩ : ByteArray), (⟨#[110, 111, 116, 101]⟩ : ByteArray), (⟨#[102, 97, 99, 101]⟩ : ByteArray)] (by simp)
  obtain ⟨b, p2, s2, e2, h2, hb⟩ := text_ev hc h1 (by omega) s1 [(⟨#[97]⟩ : ByteArray), (⟨#[98]⟩ : ByteArray), (⟨#[99]⟩ : ByteArray), (⟨#[100]⟩ : ByteArray)] (by simp)
  obtain ⟨t, p3, s3, e3, h3, ht⟩ := text_ev hc h2 (by omega) s2 [(⟨#[]⟩ : ByteArray), (⟨#[120]⟩ : ByteArray), (⟨#[97, 32, 98, 32, 99]⟩ : ByteArray), (⟨#[49, 50, 32, 51, 52]⟩ : ByteArray), (⟨#[111, 97, 107, 47, 52, 48]⟩ : ByteArray)] (by simp)
  obtain ⟨o, p4, s4, e4, h4⟩ := one_ev hc h3 (by omega) s3 4
  have hk : kindD a := by simpa [kindD] using ha
  have hts : t.size ≤ 10 := by
    simp only [List.mem_cons, List.not_mem_nil, or_false] at ht
    rcases ht with rfl | rfl | rfl | rfl | rfl <;> decide
  have hj2 : ∀ (q z : Int) (m : Nat) (u : ByteArray), At q m → m ≤ n + 5000 → u.size ≤ 20000 → EvP (fun k => spec_l29DrawOne.j2 k c q z a b u) (fun r => kindD r.1 ∧ r.2.2.1.size ≤ 20000 ∧ At r.2.2.2.1 (n + 10000)) := by
    intro q z m u hq hm hu
    obtain ⟨x, p5, s5, e5, h5⟩ := one_ev hc hq (by omega) z 24
    refine EvP.step (fun k => spec_l29DrawOne.j2.eq_2 _ _ _ _ _ _ k) (EvP.opt e5 ?_)
    refine EvP.ite (fun _ => ?_) (fun _ => EvP.now _ ⟨hk, hu, h5.more (by omega) (by omega)⟩)
    obtain ⟨y, p6, s6, e6, h6, y0, y1⟩ := pick_lt hc h5 (by omega) s5 3 (by omega)
    refine EvP.opt e6 ?_
    dsimp only
    rw [wrap64_of (by omega) (by omega)]
    refine EvP.pos (by omega) (EvP.pos (by omega) (EvP.now _ ⟨hk, ?_, h6.more (by omega) (by omega)⟩))
    rw [strOfNums_size, List.length_replicate]
    omega
  have hj0 : ∀ (q z : Int) (m : Nat) (u : ByteArray), At q m → m ≤ n + 3000 → u.size ≤ 20000 → EvP (fun k => spec_l29DrawOne.j0 k c q z a b u) (fun r => kindD r.1 ∧ r.2.2.1.size ≤ 20000 ∧ At r.2.2.2.1 (n + 10000)) := by
    intro q z m u hq hm hu
    have hj1 : ∀ (x : Bool) (q z : Int) (m : Nat), At q m → m ≤ n + 4000 → EvP (fun k => spec_l29DrawOne.j1 k x c q z a b u) (fun r => kindD r.1 ∧ r.2.2.1.size ≤ 20000 ∧ At r.2.2.2.1 (n + 10000)) := by
      intro x q z m hq hm
      refine EvP.step (fun k => spec_l29DrawOne.j1.eq_2 _ _ _ _ _ _ _ k) (EvP.ite (fun _ => ?_) (fun _ => hj2 _ _ m _ hq (by omega) hu))
      refine EvP.bind (draw09_ev hc hq (by omega) z) fun r hr => ?_
      refine EvP.bind (noteText_ev r.1 (by omega) hr.2.1) fun v hv => ?_
      exact hj2 _ _ (m + 100) _ hr.2.2 (by omega) (by omega)
    refine EvP.step (fun k => spec_l29DrawOne.j0.eq_2 _ _ _ _ _ _ k) (EvP.ite (fun _ => ?_) (fun _ => hj1 _ _ _ m hq (by omega)))
    obtain ⟨x, p5, s5, e5, h5⟩ := one_ev hc hq (by omega) z 2
    exact EvP.opt e5 (hj1 _ _ _ _ h5 (by omega))
  unfold spec_l29DrawOne.f
  refine EvP.opt e1 (EvP.opt e2 (EvP.opt e3 (EvP.opt e4 ?_)))
  dsimp only
  refine EvP.ite (fun _ => ?_) (fun _ => hj0 _ _ _ _ h4 (by omega) (by omega))
  refine EvP.bind (word_ev hc h4 s4 9 (by omega) (by omega) (by omega)) fun r hr => ?_
  refine EvP.pos (by omega) (hj0 _ _ _ _ hr.2 (by omega) ?_)
  rw [ByteArray.size_append]; omega
theorem draw29_ev {c : List Int} (hc : Bys c) : EvP (fun k => spec_R8Blocks.f k c) (fun l => VL l ∧ l.length ≤ 5 ∧ ∀ b ∈ l, kindD b.f0) := by
  unfold spec_R8Blocks.f spec_l00From.f
  simp only [Option.bind_some]
  refine EvP.bind (P := fun r => VL r.1 ∧ r.1.length ≤ 5 ∧ ∀ b ∈ r.1, kindD b.f0) ?_ (fun r hr => EvP.now _ hr)
  unfold spec_l29Draw.f
  obtain ⟨v, p1, s1, e1, h1, v0, v1⟩ := pick_lt hc (p := 0) (n := 0) ⟨by omega, by omega, by omega⟩ (by omega) 0 6 (by omega)
  refine EvP.opt e1 ?_
  dsimp only
  obtain ⟨d, rfl⟩ : ∃ d : Nat, v = d := ⟨v.toNat, by omega⟩
  refine EvP.down (fun k (t : List BLn × Int × Int) i => spec_l29Draw.l0 k t.1 i c t.2.1 t.2.2) (fun t i => VL t.1 ∧ t.1.length + i ≤ 5 ∧ (∀ b ∈ t.1, kindD b.f0) ∧ At t.2.1 (100000 - 10000 * i)) _ ?_ ?_ d ([], p1, s1) ⟨⟨by simp, by simp, by simp⟩, by simp; omega, by simp, h1.more (by omega) (by omega)⟩
  · rintro ⟨l, q, t⟩ ⟨h2, h3, h4, h5⟩
    exact EvP.step (fun k => spec_l29Draw.l0.eq_2 _ _ _ _ _ k) (EvP.neg (by decide) (EvP.now _ ⟨h2, by simpa using h3, h4⟩))
  · rintro i ⟨l, q, t⟩ ⟨h2, h3, h4, h5⟩ ih
    dsimp only at h2 h3 h4 h5 ⊢
    refine EvP.step (fun k => spec_l29Draw.l0.eq_2 _ _ _ _ _ k) (EvP.pos (by omega) ?_)
    refine EvP.bind (drawOne_ev hc h5 (by omega) t) fun r hr => ?_
    rw [wrap64_dn (by omega) (by omega)]
    refine EvP.ev (specPut_ev l ⟨r.1, r.2.1, r.2.2.1⟩ h2 (by dsimp only; omega) (by omega)) ?_
    have hat := hr.2.2.more (m := 100000 - 10000 * i) (by omega) (by omega)
    by_cases h : vB ⟨r.1, r.2.1, r.2.2.1⟩ = true
    · rw [if_pos h]
      have hlen := ins_len l ⟨r.1, r.2.1, r.2.2.1⟩
      refine EvP.pos rfl (ih (ins l ⟨r.1, r.2.1, r.2.2.1⟩, _, _) ⟨ins_VL h2 h (by omega), by dsimp only; omega, fun b hb => ?_, hat⟩)
      rcases mem_ins hb with rfl | hb
      · exact hr.1
      · exact h4 b hb
    · rw [if_neg h]
      exact EvP.neg (by decide) (ih (l, _, _) ⟨h2, by dsimp only; omega, h4, hat⟩)
end Go.Proofs.Ytocaadjpibepaaa.P

/- The law FnBlocks on plain lists: putting the block 'new x' into drawn blocks, naming it and dropping it again leads back, and merging keeps all blocks of the second list. No condition beyond the reading's bounds. -/
namespace Go.Proofs.Ytocaadjpibepaaa.Pure
open Go.RowKit Go.Proofs.Ytocaadjpibepaaa.P Go.Proofs.YtocaadjpibepaaaW.PrintWords Go.Proofs.YtocaadjpibepaaaW.PrintLast
set_option linter.unusedVariables false
set_option linter.unusedSimpArgs false
def newB : BLn := ⟨⟨#[110, 101, 119]⟩, ⟨#[120]⟩, ⟨#[116]⟩⟩
theorem newB_ok : vB newB = true := by decide +kernel
theorem kindD_new {b : BLn} (h : kindD b.f0) : b.f0.toList ≠ newB.f0.toList := by
  rcases h with h | h | h <;> rw [h] <;> decide +kernel
theorem bys_of {l : List Int} (h : ∀ x ∈ l, (Lit.int .u8 x).wf = true) : Bys l := fun x hx => by
  have := h x hx
  simp [Lit.wf, IntKind.wrap, IntKind.bits, IntKind.signed] at this
  have e1 : IntKind.u8.min = 0 := by decide
  have e2 : IntKind.u8.max = 255 := by decide
  omega
theorem filter_new {l : List BLn} (h : ∀ b ∈ l, kindD b.f0) : ((ins l newB).filter (fun b => b.f0.toList == newB.f0.toList)).length = 1 := by
  induction l with
  | nil => decide +kernel
  | cons x t ih =>
    have hx := kindD_new (h x (List.mem_cons_self ..))
    have ht := fun b hb => h b (List.mem_cons_of_mem _ hb)
    have hx' : (x.f0.toList == newB.f0.toList) = false := by simpa using hx
    have hk : keqB x newB = false := by simp [keqB, hx']
    simp only [ins]
    split
    · rw [List.filter_cons_of_neg (by simp [hx'])]
      exact ih ht
    · rw [if_neg (by rw [hk]; decide), List.filter_cons_of_pos (by simp), List.filter_cons_of_neg (by simp [hx'])]
      have : t.filter (fun b => b.f0.toList == newB.f0.toList) = [] := by
        rw [List.filter_eq_nil_iff]
        intro b hb
        simpa using kindD_new (ht b hb)
      rw [this]; rfl
theorem FnBlocks : laws_FnBlocks.Pure := by
  intro l0 l1 _ _ h0 _ _ h1
  suffices h : Ev (fun k => laws_FnBlocks.f k l0 l1) true from h.rounds
  have b0 := bys_of h0
  have b1 := bys_of h1
  unfold laws_FnBlocks.f
  have hlong : ∃ b, laws_r8Long.f l0 l1 = some b := by unfold laws_r8Long.f; split <;> exact ⟨_, rfl⟩
  obtain ⟨b, hb⟩ := hlong
  refine Ev.opt hb ?_
  by_cases hl : b = true
  · exact Ev.pos hl (Ev.now _)
  refine Ev.neg hl (EvP.ev_of ?_)
  refine EvP.bind (draw29_ev b0) fun l ⟨V, hlen, hkd⟩ => EvP.bind (draw29_ev b1) fun m ⟨W, hlen2, hkd2⟩ => ?_
  have hn : ∀ x ∈ l, keqB x newB = false := fun x hx => by
    have := kindD_new (hkd x hx)
    simp [keqB, this]
  have V2 := ins_VL V newB_ok (by omega)
  have hmem := ins_mem l newB
  have hput := implPut_ev l newB V newB_ok (by omega)
  have hnam := named_ev _ newB V2 hmem
  have hdrop := drop_ev _ newB V2 hmem
  rw [ins_erase V.srt hn (by decide +kernel)] at hdrop
  have hkind := kind_ev _ newB.f0 V2
  refine EvP.ev hput ?_
  dsimp only
  refine EvP.ev hnam (EvP.ev hdrop (EvP.bind (merge_ev l m V W (by omega)) fun r ⟨r0, R, rl, rm⟩ => EvP.ev hkind ?_))
  dsimp only
  refine EvP.pos rfl (EvP.pos rfl (EvP.pos (by decide +kernel) (EvP.pos rfl (EvP.ev (same_ev l (by omega)) (EvP.pos rfl (EvP.pos r0 ?_))))))
  have hval : Ev (fun k => spec_ValidBlocks.f k r.1) true := by
    unfold spec_ValidBlocks.f
    exact Ev.bind (specOk_ev _ R) (Ev.now _)
  refine EvP.ev hval (EvP.pos rfl (EvP.pos rfl ?_))
  refine EvP.step (fun k => laws_FnBlocks.j0.eq_2 _ _ _ _ k) (EvP.neg (by rw [List.length_map, filter_new hkd]; decide) ?_)
  refine EvP.up (fun k (_ : Unit) i => laws_FnBlocks.l0 k l m r.1 i) m.length (fun _ _ => True) _ ?_ ?_ () trivial
  · intro _ _
    refine EvP.step (fun k => laws_FnBlocks.l0.eq_2 _ _ _ _ k) (EvP.neg (by omega) (EvP.now _ ?_))
    rw [wrap64_of (by omega) (by omega)]
    simp
    omega
  · intro i _ hi _ ih
    refine EvP.step (fun k => laws_FnBlocks.l0.eq_2 _ _ _ _ k) (EvP.pos (by omega) (EvP.pos (by omega) ?_))
    simp only [rdB]
    refine EvP.ev (named_ev r.1 (bAt m i) R (rm _ (bAt_mem m i hi))) (EvP.pos rfl (EvP.pos rfl ?_))
    rw [wrap64_up (by omega)]
    exact ih () trivial
end Go.Proofs.Ytocaadjpibepaaa.Pure
