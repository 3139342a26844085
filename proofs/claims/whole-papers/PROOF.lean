import PyProof.Rows.All
import Wide.All
import OpenK.AllK
import Wide.FinOn
import PyProof.EqAt
import PyProof.EqKinds
import PyProof.TupleCall
import KE.KeyNested
import KE.KDictKeyed
import KE.KDictPairs
import KE.SortData
import KE.DataMinMax
import KE.KDictWalk
import HandS.ForMost
import HandS.More
import HandS.Sort
import HandS.DictTup
import HandS.TupAny
import HandS.TupLen
import HandS.Keys
import PyProof.TupleOfSeq
import HandS.IsInst
import HandS.WideBits
import HandS.DictComp
import HandS.Head0
import HandS.Head1
import HandS.Head2
import HandS.HeadEnd
import HandS.HeadHook1
import HandS.HeadHook2
import HandS.HeadNt
import HandS.Text
import KE.SortLaws
import HandS.Conv
import KE.KStateDown
import HandS.Defaults
import PySem.Challenge.RW_finesse_k34_whole_papers_show_the_share
set_option Elab.async false
set_option linter.all false
set_option maxRecDepth 100000
set_option maxHeartbeats 4000000
/-! the plain law: cards, positions, shares, papers; no program in sight -/
namespace Fi

/-! ### cards of a mask -/
def bl (m : Nat) : Nat := if m = 0 then 0 else m.log2 + 1
def cardsOf (m : Nat) : List Nat := (List.range (bl m)).filter fun c => m.testBit c

theorem lt_bl {m c : Nat} (h : m.testBit c = true) : c < bl m := by
  unfold bl
  by_cases hm : m = 0
  · subst hm; simp at h
  · rw [if_neg hm]
    refine Nat.lt_of_not_le fun hle => ?_
    have h1 : m < 2 ^ c := Nat.lt_of_lt_of_le Nat.lt_log2_self (Nat.pow_le_pow_right (by decide) hle)
    rw [Nat.testBit_lt_two_pow h1] at h
    cases h
theorem mem_cardsOf {m c : Nat} : c ∈ cardsOf m ↔ m.testBit c = true := by
  unfold cardsOf
  rw [List.mem_filter, List.mem_range]
  exact ⟨fun h => h.2, fun h => ⟨lt_bl h, h⟩⟩
theorem asc_cardsOf (m : Nat) : (cardsOf m).Pairwise (· < ·) := List.pairwise_lt_range.filter _
theorem nd_cardsOf (m : Nat) : (cardsOf m).Nodup := (asc_cardsOf m).imp fun h => Nat.ne_of_lt h
/-- ascending lists with the same members are one -/
theorem asc_ext : ∀ {l1 l2 : List Nat}, l1.Pairwise (· < ·) → l2.Pairwise (· < ·) → (∀ c, c ∈ l1 ↔ c ∈ l2) → l1 = l2
  | [], [], _, _, _ => rfl
  | [], b :: l2, _, _, h => absurd ((h b).mpr (List.mem_cons_self ..)) (by simp)
  | a :: l1, [], _, _, h => absurd ((h a).mp (List.mem_cons_self ..)) (by simp)
  | a :: l1, b :: l2, h1, h2, h => by
    obtain ⟨a1, p1⟩ := List.pairwise_cons.mp h1
    obtain ⟨a2, p2⟩ := List.pairwise_cons.mp h2
    have hab : a = b := by
      have ha : a ∈ b :: l2 := (h a).mp (List.mem_cons_self ..)
      have hb : b ∈ a :: l1 := (h b).mpr (List.mem_cons_self ..)
      rcases List.mem_cons.mp ha with e | ha
      · exact e
      · rcases List.mem_cons.mp hb with e | hb
        · exact e.symm
        · have := a2 a ha
          have := a1 b hb
          omega
    subst hab
    rw [asc_ext p1 p2 fun c => ?_]
    constructor
    · intro hc
      rcases List.mem_cons.mp ((h c).mp (List.mem_cons_of_mem _ hc)) with e | q
      · have := a1 c hc; omega
      · exact q
    · intro hc
      rcases List.mem_cons.mp ((h c).mpr (List.mem_cons_of_mem _ hc)) with e | q
      · have := a2 c hc; omega
      · exact q
theorem cardsOf_zero : cardsOf 0 = [] := by simp [cardsOf, bl]
theorem cardsOf_nil {m : Nat} : cardsOf m = [] ↔ m = 0 := by
  constructor
  · intro h
    refine Nat.eq_of_testBit_eq fun i => ?_
    rw [Nat.zero_testBit]
    cases q : m.testBit i with
    | false => rfl
    | true =>
      have := mem_cardsOf.mpr q
      rw [h] at this; cases this
  · rintro rfl; exact cardsOf_zero
theorem cards_lt {m c L : Nat} (hm : m < 2 ^ L) (hc : c ∈ cardsOf m) : c < L := by
  refine Nat.lt_of_not_le fun hle => ?_
  have h := mem_cardsOf.mp hc
  rw [Nat.testBit_lt_two_pow (Nat.lt_of_lt_of_le hm (Nat.pow_le_pow_right (by decide) hle))] at h
  cases h
theorem filter_ne_length {c : Nat} : ∀ {l : List Nat}, l.Nodup → c ∈ l → (l.filter fun x => decide (x ≠ c)).length + 1 = l.length
  | [], _, h => by cases h
  | a :: l, hn, h => by
    obtain ⟨h1, h2⟩ := List.nodup_cons.mp hn
    by_cases e : a = c
    · subst e
      rw [List.filter_cons, if_neg (by simp)]
      have : l.filter (fun x => decide (x ≠ a)) = l := List.filter_eq_self.mpr fun x hx => by
        simp only [ne_eq, decide_not, Bool.not_eq_eq_eq_not, Bool.not_true, decide_eq_false_iff_not]
        rintro rfl; exact h1 hx
      rw [this, List.length_cons]
    · have hm : c ∈ l := by
        rcases List.mem_cons.mp h with q | q
        · exact absurd q.symm e
        · exact q
      rw [List.filter_cons, if_pos (by simp [e]), List.length_cons, List.length_cons, filter_ne_length h2 hm]
theorem tb_shift (c x : Nat) : (1 <<< c).testBit x = decide (x = c) := by
  rw [Nat.one_shiftLeft, Nat.testBit_two_pow]
  by_cases h : x = c
  · subst h; simp
  · simp [h, Ne.symm h]
theorem cardsOf_xor {m c : Nat} (h : c ∈ cardsOf m) : cardsOf (m ^^^ (1 <<< c)) = (cardsOf m).filter fun x => decide (x ≠ c) := by
  refine asc_ext (asc_cardsOf _) ((asc_cardsOf m).filter _) fun x => ?_
  rw [mem_cardsOf, List.mem_filter, mem_cardsOf, Nat.testBit_xor, tb_shift]
  by_cases e : x = c
  · subst e
    have := mem_cardsOf.mp h
    simp [this]
  · simp [e]
theorem cardsOf_xor_len {m c : Nat} (h : c ∈ cardsOf m) : (cardsOf (m ^^^ (1 <<< c))).length + 1 = (cardsOf m).length := by
  rw [cardsOf_xor h]
  exact filter_ne_length (nd_cardsOf m) h
theorem cardsOf_or_len {m c : Nat} (h : m.testBit c = false) : (cardsOf (m ||| (1 <<< c))).length = (cardsOf m).length + 1 := by
  have hc : c ∈ cardsOf (m ||| (1 <<< c)) := mem_cardsOf.mpr (by rw [Nat.testBit_or, tb_shift]; simp)
  have e : (cardsOf (m ||| (1 <<< c))).filter (fun x => decide (x ≠ c)) = cardsOf m := by
    refine asc_ext ((asc_cardsOf _).filter _) (asc_cardsOf m) fun x => ?_
    rw [List.mem_filter, mem_cardsOf, mem_cardsOf, Nat.testBit_or, tb_shift]
    by_cases q : x = c
    · subst q; simp [h]
    · simp [q]
  rw [← filter_ne_length (nd_cardsOf _) hc, e]
theorem xor_lt {m c L : Nat} (hm : m < 2 ^ L) (h : c ∈ cardsOf m) : m ^^^ (1 <<< c) < 2 ^ L := by
  refine Nat.xor_lt_two_pow hm ?_
  rw [Nat.one_shiftLeft]
  exact Nat.pow_lt_pow_right (by decide) (cards_lt hm h)
/-- the cards of a suit -/
def ofSuit (R m s : Nat) : Nat := m &&& (((1 <<< R) - 1) <<< (s * R))
theorem cardsOf_suit {R : Nat} (hR : 0 < R) (m s : Nat) : cardsOf (ofSuit R m s) = (cardsOf m).filter fun c => decide (c / R = s) := by
  refine asc_ext (asc_cardsOf _) ((asc_cardsOf m).filter _) fun x => ?_
  have e : decide (x ≥ s * R) = true ∧ x - s * R < R ↔ x / R = s := by
    rw [Nat.div_eq_iff hR]
    simp only [ge_iff_le, decide_eq_true_eq]
    omega
  unfold ofSuit
  rw [mem_cardsOf, List.mem_filter, mem_cardsOf, Nat.testBit_and, Nat.testBit_shiftLeft, Nat.one_shiftLeft, Nat.testBit_two_pow_sub_one, Bool.and_eq_true, Bool.and_eq_true, decide_eq_true_eq (p := x - s * R < R), decide_eq_true_eq (p := x / R = s), e]

/-! ### positions -/
structure Psn where
  tr : Int
  hs : List Nat
  ld : Nat
  tk : List Nat
  deriving DecidableEq

def mover (p : Psn) : Nat := (p.ld + p.tk.length) % 4
def hand (p : Psn) : Nat := p.hs.getD (mover p) 0
def legal (R : Nat) (p : Psn) : List Nat := match p.tk with
  | [] => cardsOf (hand p)
  | c :: _ => if ofSuit R (hand p) (c / R) ≠ 0 then cardsOf (ofSuit R (hand p) (c / R)) else cardsOf (hand p)
/-- the card c beats the card b -/
def beats (R : Nat) (tr : Int) (c b : Nat) : Bool := (decide (c / R = b / R) && decide (b < c)) || (decide (((c / R : Nat) : Int) = tr) && decide (((b / R : Nat) : Int) ≠ tr))
def winIdx (R : Nat) (tr : Int) (cs : List Nat) : Nat := (List.range cs.length).foldl (fun b i => if beats R tr (cs.getD i 0) (cs.getD b 0) = true then i else b) 0
def winner (R : Nat) (tr : Int) (ld : Nat) (cs : List Nat) : Nat := (ld + winIdx R tr cs) % 4
def nxt (R : Nat) (p : Psn) (c : Nat) : Psn :=
  if p.tk.length = 3 then ⟨p.tr, p.hs.set (mover p) (hand p ^^^ (1 <<< c)), winner R p.tr p.ld (p.tk ++ [c]), []⟩
  else ⟨p.tr, p.hs.set (mover p) (hand p ^^^ (1 <<< c)), p.ld, p.tk ++ [c]⟩
def gain (R side : Nat) (p : Psn) (c : Nat) : Int := if p.tk.length = 3 ∧ winner R p.tr p.ld (p.tk ++ [c]) % 2 = side then 1 else 0
def over (p : Psn) : Bool := decide (p.hs = [0, 0, 0, 0])
def left (p : Psn) : Nat := (cardsOf (p.hs.getD ((p.ld + 3) % 4) 0)).length

/-- a position with n cards in the hands -/
structure Wf (n : Nat) (p : Psn) : Prop where
  len : p.hs.length = 4
  ld : p.ld < 4
  tk : p.tk.length < 4
  big : ∀ h ∈ p.hs, h < 2 ^ 16
  tkb : ∀ c ∈ p.tk, c < 16
  bal : ∃ m, n + p.tk.length = 4 * m ∧ ∀ i, i < 4 → (cardsOf (p.hs.getD ((p.ld + i) % 4) 0)).length + (if i < p.tk.length then 1 else 0) = m

theorem legal_sub {R c : Nat} {p : Psn} (hR : 0 < R) (h : c ∈ legal R p) : c ∈ cardsOf (hand p) := by
  unfold legal at h
  split at h
  · exact h
  · split at h
    · rw [cardsOf_suit hR] at h
      exact (List.mem_filter.mp h).1
    · exact h
theorem legal_nil {R : Nat} {p : Psn} : legal R p = [] ↔ hand p = 0 := by
  unfold legal
  split
  · exact cardsOf_nil
  · split
    · rename_i h
      rw [cardsOf_nil]
      constructor
      · intro q; exact absurd q h
      · intro q
        rw [q] at h
        unfold ofSuit at h
        rw [Nat.zero_and] at h
        exact absurd rfl h
    · exact cardsOf_nil
theorem legal_asc {R : Nat} {p : Psn} : (legal R p).Pairwise (· < ·) := by
  unfold legal
  split
  · exact asc_cardsOf _
  · split <;> exact asc_cardsOf _
theorem legal_len {R : Nat} {p : Psn} (hR : 0 < R) : (legal R p).length ≤ (cardsOf (hand p)).length := by
  unfold legal
  split
  · exact Nat.le_refl _
  · split
    · rw [cardsOf_suit hR]; exact List.length_filter_le _ _
    · exact Nat.le_refl _

section
variable {n : Nat} {p : Psn}
theorem Wf.four (w : Wf n p) : ∃ a b c d, p.hs = [a, b, c, d] := by
  have h := w.len
  match e : p.hs, h with
  | [a, b, c, d], _ => exact ⟨a, b, c, d, rfl⟩
theorem Wf.mv (w : Wf n p) : mover p < 4 := Nat.mod_lt _ (by decide)
/-- the mover's hand is a full one -/
theorem Wf.hand_len (w : Wf n p) : n + p.tk.length = 4 * (cardsOf (hand p)).length := by
  obtain ⟨m, h1, h2⟩ := w.bal
  have := h2 p.tk.length w.tk
  rw [if_neg (Nat.lt_irrefl _)] at this
  have e : (cardsOf (hand p)).length = m := this
  rw [e, h1]
theorem Wf.inj {n' : Nat} (w : Wf n p) (w' : Wf n' p) : n = n' := by
  have a := w.hand_len
  have b := w'.hand_len
  omega
theorem Wf.left_eq (w : Wf n p) : n + p.tk.length = 4 * left p := by
  obtain ⟨m, h1, h2⟩ := w.bal
  have ht := w.tk
  have := h2 3 (by decide)
  rw [if_neg (by omega)] at this
  have e : left p = m := this
  rw [e, h1]
theorem Wf.legal_nil (w : Wf n p) {R : Nat} : legal R p = [] ↔ n = 0 := by
  rw [Fi.legal_nil, ← cardsOf_nil]
  have a := w.hand_len
  have ht := w.tk
  constructor
  · intro h
    rw [h] at a
    simp at a
    omega
  · intro h
    subst h
    refine List.eq_nil_of_length_eq_zero ?_
    omega
theorem getD_mem {l : List Nat} {i : Nat} (h : i < l.length) : l.getD i 0 ∈ l := by
  rw [List.getD_eq_getElem?_getD, List.getElem?_eq_getElem h, Option.getD_some]
  exact List.getElem_mem h
theorem Wf.over_iff (w : Wf n p) : over p = true ↔ n = 0 := by
  obtain ⟨a, b, c, d, e⟩ := w.four
  obtain ⟨m, h1, h2⟩ := w.bal
  have ht := w.tk
  have hl := w.ld
  constructor
  · intro h
    have hz : p.hs = [0, 0, 0, 0] := of_decide_eq_true h
    have := h2 3 (by decide)
    rw [hz, if_neg (by omega)] at this
    have z : ∀ i, i < 4 → ([0, 0, 0, 0] : List Nat).getD i 0 = 0 := by decide
    rw [z _ (Nat.mod_lt _ (by decide)), cardsOf_zero] at this
    simp at this
    omega
  · intro h
    subst h
    have hm : m = 0 := by omega
    subst hm
    have ht0 : p.tk.length = 0 := by omega
    have z : ∀ i, i < 4 → p.hs.getD ((p.ld + i) % 4) 0 = 0 := fun i hi => by
      have := h2 i hi
      rw [ht0, if_neg (Nat.not_lt_zero _)] at this
      exact cardsOf_nil.mp (List.eq_nil_of_length_eq_zero (by omega))
    have zz : ∀ j, j < 4 → p.hs.getD j 0 = 0 := fun j hj => by
      have := z ((j + 4 - p.ld) % 4) (Nat.mod_lt _ (by decide))
      have e2 : (p.ld + (j + 4 - p.ld) % 4) % 4 = j := by omega
      rw [e2] at this
      exact this
    have q0 := zz 0 (by decide)
    have q1 := zz 1 (by decide)
    have q2 := zz 2 (by decide)
    have q3 := zz 3 (by decide)
    rw [e] at q0 q1 q2 q3
    simp at q0 q1 q2 q3
    unfold over
    rw [e, q0, q1, q2, q3]
    decide
theorem getD_set {l : List Nat} {i j v : Nat} (h : i < l.length) : (l.set i v).getD j 0 = if j = i then v else l.getD j 0 := by
  rw [List.getD_eq_getElem?_getD, List.getD_eq_getElem?_getD, List.getElem?_set]
  by_cases e : i = j
  · subst e; simp [h]
  · rw [if_neg e, if_neg (Ne.symm e)]
theorem winner_lt (R : Nat) (tr : Int) (ld : Nat) (cs : List Nat) : winner R tr ld cs < 4 := Nat.mod_lt _ (by decide)
theorem Wf.next {R c : Nat} (hR : 0 < R) (w : Wf (n + 1) p) (h : c ∈ legal R p) : Wf n (nxt R p c) := by
  obtain ⟨m, h1, h2⟩ := w.bal
  have ht := w.tk
  have hl := w.ld
  have hlen := w.len
  have hm := w.mv
  have hc := legal_sub hR h
  have hx := cardsOf_xor_len hc
  have hh : (cardsOf (hand p)).length = m := by have := w.hand_len; omega
  have hhb : hand p < 2 ^ 16 := w.big _ (getD_mem (by rw [hlen]; exact hm))
  have hc16 : c < 16 := cards_lt hhb hc
  have big : ∀ x ∈ p.hs.set (mover p) (hand p ^^^ (1 <<< c)), x < 2 ^ 16 := fun x hx => by
    rcases List.mem_or_eq_of_mem_set hx with q | q
    · exact w.big x q
    · rw [q]; exact xor_lt hhb hc
  unfold nxt
  by_cases h3 : p.tk.length = 3
  · rw [if_pos h3]
    refine ⟨by rw [List.length_set]; exact hlen, winner_lt .., (by show (0 : Nat) < 4; decide), big, fun x hx => (by cases hx), m - 1, ?_, fun i hi => ?_⟩
    · show n + 0 = 4 * (m - 1)
      omega
    · show (cardsOf ((p.hs.set (mover p) (hand p ^^^ (1 <<< c))).getD ((winner R p.tr p.ld (p.tk ++ [c]) + i) % 4) 0)).length + (if i < 0 then 1 else 0) = m - 1
      rw [if_neg (Nat.not_lt_zero _), getD_set (by rw [hlen]; exact hm)]
      generalize hj : (winner R p.tr p.ld (p.tk ++ [c]) + i) % 4 = j
      have hj4 : j < 4 := by rw [← hj]; exact Nat.mod_lt _ (by decide)
      by_cases e : j = mover p
      · rw [if_pos e]; omega
      · rw [if_neg e]
        have q := h2 ((j + 4 - p.ld) % 4) (Nat.mod_lt _ (by decide))
        have e2 : (p.ld + (j + 4 - p.ld) % 4) % 4 = j := by omega
        rw [e2] at q
        have hlt : (j + 4 - p.ld) % 4 < p.tk.length := by
          unfold mover at e
          omega
        rw [if_pos hlt] at q
        omega
  · rw [if_neg h3]
    refine ⟨by rw [List.length_set]; exact hlen, hl, ?_, big, fun x hx => ?_, m, ?_, fun i hi => ?_⟩
    · show (p.tk ++ [c]).length < 4
      rw [List.length_append, List.length_singleton]; omega
    · rcases List.mem_append.mp hx with q | q
      · exact w.tkb x q
      · rw [List.mem_singleton.mp q]; exact hc16
    · show n + (p.tk ++ [c]).length = 4 * m
      rw [List.length_append, List.length_singleton]; omega
    · show (cardsOf ((p.hs.set (mover p) (hand p ^^^ (1 <<< c))).getD ((p.ld + i) % 4) 0)).length + (if i < (p.tk ++ [c]).length then 1 else 0) = m
      rw [getD_set (by rw [hlen]; exact hm), List.length_append, List.length_singleton]
      have q := h2 i hi
      by_cases e : (p.ld + i) % 4 = mover p
      · rw [if_pos e]
        have ei : i = p.tk.length := by
          unfold mover at e
          omega
        rw [if_pos (by omega)]
        omega
      · rw [if_neg e]
        have ne : i ≠ p.tk.length := fun z => e (by rw [z]; rfl)
        by_cases hi2 : i < p.tk.length
        · rw [if_pos hi2] at q
          rw [if_pos (by omega)]
          exact q
        · rw [if_neg hi2] at q
          rw [if_neg (by omega)]
          exact q
theorem Wf.left_next {R c : Nat} (hR : 0 < R) (w : Wf (n + 1) p) (h : c ∈ legal R p) : left p = left (nxt R p c) + (if p.tk.length = 3 then 1 else 0) := by
  have a := w.left_eq
  have b := (w.next hR h).left_eq
  have ht := w.tk
  unfold nxt at b ⊢
  by_cases h3 : p.tk.length = 3
  · rw [if_pos h3] at b ⊢
    rw [if_pos h3]
    simp only [List.length_nil] at b
    omega
  · rw [if_neg h3] at b ⊢
    rw [if_neg h3]
    simp only [List.length_append, List.length_cons, List.length_nil] at b
    omega
end
theorem gain_sum (R : Nat) (p : Psn) (c : Nat) : gain R 0 p c + gain R 1 p c = if p.tk.length = 3 then 1 else 0 := by
  unfold gain
  generalize hw : winner R p.tr p.ld (p.tk ++ [c]) = w
  have : w % 2 = 0 ∨ w % 2 = 1 := by omega
  by_cases h3 : p.tk.length = 3
  · rcases this with e | e <;> simp [h3, e]
  · simp [h3]
theorem gain_nn (R side : Nat) (p : Psn) (c : Nat) : 0 ≤ gain R side p c := by
  unfold gain
  split <;> decide

/-! ### shares -/
def lmax : List Int → Int
  | [] => 0
  | x :: xs => xs.foldl (fun a b => if a < b then b else a) x
def lmin : List Int → Int
  | [] => 0
  | x :: xs => xs.foldl (fun a b => if b < a then b else a) x
theorem foldmax : ∀ (xs : List Int) (x : Int), (xs.foldl (fun a b => if a < b then b else a) x ∈ x :: xs) ∧ (∀ y ∈ x :: xs, y ≤ xs.foldl (fun a b => if a < b then b else a) x)
  | [], x => by simp
  | z :: xs, x => by
    obtain ⟨h1, h2⟩ := foldmax xs (if x < z then z else x)
    rw [List.foldl_cons]
    constructor
    · rcases List.mem_cons.mp h1 with e | e
      · rw [e]; split <;> simp
      · exact List.mem_cons_of_mem _ (List.mem_cons_of_mem _ e)
    · intro y hy
      have q := h2 (if x < z then z else x) (List.mem_cons_self ..)
      have hz : z ≤ (if x < z then z else x) ∧ x ≤ (if x < z then z else x) := by split <;> omega
      rcases List.mem_cons.mp hy with e | hy
      · rw [e]; omega
      · rcases List.mem_cons.mp hy with e | hy
        · rw [e]; omega
        · exact h2 y (List.mem_cons_of_mem _ hy)
theorem foldmin : ∀ (xs : List Int) (x : Int), (xs.foldl (fun a b => if b < a then b else a) x ∈ x :: xs) ∧ (∀ y ∈ x :: xs, xs.foldl (fun a b => if b < a then b else a) x ≤ y)
  | [], x => by simp
  | z :: xs, x => by
    obtain ⟨h1, h2⟩ := foldmin xs (if z < x then z else x)
    rw [List.foldl_cons]
    constructor
    · rcases List.mem_cons.mp h1 with e | e
      · rw [e]; split <;> simp
      · exact List.mem_cons_of_mem _ (List.mem_cons_of_mem _ e)
    · intro y hy
      have q := h2 (if z < x then z else x) (List.mem_cons_self ..)
      have hz : (if z < x then z else x) ≤ z ∧ (if z < x then z else x) ≤ x := by split <;> omega
      rcases List.mem_cons.mp hy with e | hy
      · rw [e]; omega
      · rcases List.mem_cons.mp hy with e | hy
        · rw [e]; omega
        · exact h2 y (List.mem_cons_of_mem _ hy)
theorem lmax_mem {l : List Int} (h : l ≠ []) : lmax l ∈ l := by
  cases l with
  | nil => exact absurd rfl h
  | cons x xs => exact (foldmax xs x).1
theorem lmax_le {l : List Int} {y : Int} (h : y ∈ l) : y ≤ lmax l := by
  cases l with
  | nil => cases h
  | cons x xs => exact (foldmax xs x).2 y h
theorem lmin_mem {l : List Int} (h : l ≠ []) : lmin l ∈ l := by
  cases l with
  | nil => exact absurd rfl h
  | cons x xs => exact (foldmin xs x).1
theorem lmin_le {l : List Int} {y : Int} (h : y ∈ l) : lmin l ≤ y := by
  cases l with
  | nil => cases h
  | cons x xs => exact (foldmin xs x).2 y h
theorem lmax_eq {l : List Int} {m : Int} (h : m ∈ l) (hm : ∀ y ∈ l, y ≤ m) : m = lmax l := by
  have a := lmax_le h
  have b := hm _ (lmax_mem (List.ne_nil_of_mem h))
  omega
theorem lmin_eq {l : List Int} {m : Int} (h : m ∈ l) (hm : ∀ y ∈ l, m ≤ y) : m = lmin l := by
  have a := lmin_le h
  have b := hm _ (lmin_mem (List.ne_nil_of_mem h))
  omega

/-- the share of side 0 -/
def S0 (R : Nat) : Nat → Psn → Int
  | 0, _ => 0
  | n + 1, p => if mover p % 2 = 0 then lmax ((legal R p).map fun c => gain R 0 p c + S0 R n (nxt R p c)) else lmin ((legal R p).map fun c => gain R 0 p c + S0 R n (nxt R p c))
/-- what side 0 has after each legal card -/
def v0 (R n : Nat) (p : Psn) (c : Nat) : Int := gain R 0 p c + S0 R n (nxt R p c)
theorem S0_succ (R n : Nat) (p : Psn) : S0 R (n + 1) p = if mover p % 2 = 0 then lmax ((legal R p).map (v0 R n p)) else lmin ((legal R p).map (v0 R n p)) := rfl
/-- the share of a side -/
def Sd (R side n : Nat) (p : Psn) : Int := if side = 0 then S0 R n p else (left p : Int) - S0 R n p
/-- what the side that moves has after each legal card -/
def vm (R n : Nat) (p : Psn) (c : Nat) : Int := if mover p % 2 = 1 then (left p : Int) - v0 R n p c else v0 R n p c
/-- the first best card -/
def bestC (R n : Nat) (p : Psn) : Nat := ((legal R p).filter fun c => decide (vm R n p c = lmax ((legal R p).map (vm R n p)))).headD 0

section
variable {R n side : Nat} {p : Psn}
theorem Sd_zero (w : Wf 0 p) : Sd R side 0 p = 0 := by
  have a := w.left_eq
  have ht := w.tk
  unfold Sd
  split
  · rfl
  · have : left p = 0 := by omega
    rw [this]; rfl
theorem vm_eq (hR : 0 < R) (hs : side < 2) (ht : mover p % 2 = side) (w : Wf (n + 1) p) {c : Nat} (h : c ∈ legal R p) : vm R n p c = gain R side p c + Sd R side n (nxt R p c) := by
  have hl := w.left_next hR h
  have hg := gain_sum R p c
  unfold vm Sd v0
  have : side = 0 ∨ side = 1 := by omega
  rcases this with e | e
  · subst e
    rw [if_neg (by omega), if_pos rfl]
  · subst e
    rw [if_pos ht, if_neg (by omega), hl]
    by_cases h3 : p.tk.length = 3
    · rw [if_pos h3] at hg ⊢
      push_cast
      omega
    · rw [if_neg h3] at hg ⊢
      push_cast
      omega
theorem legal_ne (w : Wf (n + 1) p) : legal R p ≠ [] := fun h => by
  have := (w.legal_nil (R := R)).mp h
  omega
theorem Sd_turn (hR : 0 < R) (hs : side < 2) (ht : mover p % 2 = side) (w : Wf (n + 1) p) : Sd R side (n + 1) p = lmax ((legal R p).map (vm R n p)) := by
  have hne : (legal R p).map (v0 R n p) ≠ [] := by
    intro h
    exact legal_ne (R := R) w (List.map_eq_nil_iff.mp h)
  unfold Sd
  rw [S0_succ]
  have : side = 0 ∨ side = 1 := by omega
  rcases this with e | e
  · subst e
    rw [if_pos rfl, if_pos ht]
    congr 1
    refine List.map_congr_left fun c _ => ?_
    unfold vm
    rw [if_neg (by omega)]
  · subst e
    rw [if_neg (by decide), if_neg (by omega)]
    refine lmax_eq ?_ fun y hy => ?_
    · obtain ⟨c, hc, e⟩ := List.mem_map.mp (lmin_mem hne)
      refine List.mem_map.mpr ⟨c, hc, ?_⟩
      unfold vm
      rw [if_pos ht, e]
    · obtain ⟨c, hc, e⟩ := List.mem_map.mp hy
      have := lmin_le (List.mem_map.mpr ⟨c, hc, rfl⟩ : v0 R n p c ∈ (legal R p).map (v0 R n p))
      rw [← e]
      unfold vm
      rw [if_pos ht]
      omega
theorem Sd_other (hR : 0 < R) (hs : side < 2) (ht : mover p % 2 ≠ side) (w : Wf (n + 1) p) :
    (∀ c ∈ legal R p, Sd R side (n + 1) p ≤ gain R side p c + Sd R side n (nxt R p c)) ∧ ∃ c ∈ legal R p, Sd R side (n + 1) p = gain R side p c + Sd R side n (nxt R p c) := by
  have hne : (legal R p).map (v0 R n p) ≠ [] := by
    intro h
    exact legal_ne (R := R) w (List.map_eq_nil_iff.mp h)
  have : side = 0 ∨ side = 1 := by omega
  rcases this with e | e
  · subst e
    have e1 : Sd R 0 (n + 1) p = lmin ((legal R p).map (v0 R n p)) := by
      unfold Sd
      rw [S0_succ, if_pos rfl, if_neg (by omega)]
    have e2 : ∀ c, gain R 0 p c + Sd R 0 n (nxt R p c) = v0 R n p c := fun c => by
      unfold Sd v0
      rw [if_pos rfl]
    rw [e1]
    refine ⟨fun c hc => ?_, ?_⟩
    · rw [e2]; exact lmin_le (List.mem_map.mpr ⟨c, hc, rfl⟩)
    · obtain ⟨c, hc, e⟩ := List.mem_map.mp (lmin_mem hne)
      exact ⟨c, hc, by rw [e2, e]⟩
  · subst e
    have e1 : Sd R 1 (n + 1) p = (left p : Int) - lmax ((legal R p).map (v0 R n p)) := by
      unfold Sd
      rw [S0_succ, if_neg (by decide), if_pos (by omega)]
    have e2 : ∀ c ∈ legal R p, gain R 1 p c + Sd R 1 n (nxt R p c) = (left p : Int) - v0 R n p c := fun c hc => by
      have hl := w.left_next hR hc
      have hg := gain_sum R p c
      unfold Sd v0
      rw [if_neg (by decide), hl]
      by_cases h3 : p.tk.length = 3
      · rw [if_pos h3] at hg ⊢
        push_cast
        omega
      · rw [if_neg h3] at hg ⊢
        push_cast
        omega
    rw [e1]
    refine ⟨fun c hc => ?_, ?_⟩
    · rw [e2 c hc]
      have := lmax_le (List.mem_map.mpr ⟨c, hc, rfl⟩ : v0 R n p c ∈ (legal R p).map (v0 R n p))
      omega
    · obtain ⟨c, hc, e⟩ := List.mem_map.mp (lmax_mem hne)
      exact ⟨c, hc, by rw [e2 c hc, e]⟩
theorem best_ne (w : Wf (n + 1) p) : (legal R p).filter (fun c => decide (vm R n p c = lmax ((legal R p).map (vm R n p)))) ≠ [] := by
  have hne : (legal R p).map (vm R n p) ≠ [] := by
    intro h
    exact legal_ne (R := R) w (List.map_eq_nil_iff.mp h)
  obtain ⟨c, hc, e⟩ := List.mem_map.mp (lmax_mem hne)
  exact List.ne_nil_of_mem (List.mem_filter.mpr ⟨hc, decide_eq_true e⟩)
theorem headD_mem {l : List Nat} (h : l ≠ []) : l.headD 0 ∈ l := by
  cases l with
  | nil => exact absurd rfl h
  | cons a l => exact List.mem_cons_self ..
theorem bestC_mem (w : Wf (n + 1) p) : bestC R n p ∈ legal R p ∧ vm R n p (bestC R n p) = lmax ((legal R p).map (vm R n p)) := by
  have h : bestC R n p ∈ _ := headD_mem (best_ne (R := R) w)
  obtain ⟨h1, h2⟩ := List.mem_filter.mp h
  exact ⟨h1, of_decide_eq_true h2⟩
theorem bestC_share (hR : 0 < R) (hs : side < 2) (ht : mover p % 2 = side) (w : Wf (n + 1) p) : Sd R side (n + 1) p = gain R side p (bestC R n p) + Sd R side n (nxt R p (bestC R n p)) := by
  obtain ⟨h1, h2⟩ := bestC_mem (R := R) w
  rw [Sd_turn hR hs ht w, ← h2, vm_eq hR hs ht w h1]
end
theorem Sd_nn {R side : Nat} (hR : 0 < R) (hs : side < 2) : ∀ {n : Nat} {p : Psn}, Wf n p → 0 ≤ Sd R side n p
  | 0, p, w => by rw [Sd_zero w]; exact Int.le_refl _
  | n + 1, p, w => by
    by_cases ht : mover p % 2 = side
    · rw [bestC_share hR hs ht w]
      have := gain_nn R side p (bestC R n p)
      have := Sd_nn hR hs (w.next hR (bestC_mem (R := R) w).1)
      omega
    · obtain ⟨_, c, hc, e⟩ := Sd_other hR hs ht w
      rw [e]
      have := gain_nn R side p c
      have := Sd_nn hR hs (w.next hR hc)
      omega
theorem Sd_sum {R n : Nat} {p : Psn} : Sd R 0 n p + Sd R 1 n p = left p := by
  unfold Sd
  rw [if_pos rfl, if_neg (by decide)]
  omega

/-! ### the checker -/
def hold (R side : Nat) (told : Psn → Option Nat) : Nat → Psn → Int → Bool
  | 0, _, g => decide (g ≤ 0)
  | n + 1, p, g => if g ≤ 0 then true else
      if mover p % 2 = side then (match told p with
        | some c => decide (c ∈ legal R p) && hold R side told n (nxt R p c) (g - gain R side p c)
        | none => false)
      else (legal R p).all fun c => hold R side told n (nxt R p c) (g - gain R side p c)
theorem hold_le {R side : Nat} {told : Psn → Option Nat} : ∀ {n : Nat} {p : Psn} {g : Int}, g ≤ 0 → hold R side told n p g = true
  | 0, _, _, h => decide_eq_true h
  | n + 1, p, g, h => by unfold hold; rw [if_pos h]
/-- no paper holds for more -/
theorem hold_max {R side : Nat} {told : Psn → Option Nat} (hR : 0 < R) (hs : side < 2) : ∀ {n : Nat} {p : Psn} {g : Int}, Wf n p → hold R side told n p g = true → g ≤ Sd R side n p
  | 0, p, g, w, h => by rw [Sd_zero w]; exact of_decide_eq_true h
  | n + 1, p, g, w, h => by
    by_cases h0 : g ≤ 0
    · exact Int.le_trans h0 (Sd_nn hR hs w)
    · unfold hold at h
      rw [if_neg h0] at h
      by_cases ht : mover p % 2 = side
      · rw [if_pos ht] at h
        cases e : told p with
        | none => rw [e] at h; cases h
        | some c =>
          rw [e] at h
          obtain ⟨h1, h2⟩ := Bool.and_eq_true_iff.mp h
          have hc : c ∈ legal R p := of_decide_eq_true h1
          have q := hold_max hR hs (w.next hR hc) h2
          rw [Sd_turn hR hs ht w]
          have := lmax_le (List.mem_map.mpr ⟨c, hc, rfl⟩ : vm R n p c ∈ (legal R p).map (vm R n p))
          rw [vm_eq hR hs ht w hc] at this
          omega
      · rw [if_neg ht] at h
        obtain ⟨_, c, hc, e⟩ := Sd_other hR hs ht w
        have q := hold_max hR hs (w.next hR hc) (List.all_eq_true.mp h c hc)
        omega
/-- the best cards are told wherever the play may come -/
def Cov (R side : Nat) (told : Psn → Option Nat) : Nat → Psn → Prop
  | 0, _ => True
  | n + 1, p => if mover p % 2 = side then told p = some (bestC R n p) ∧ Cov R side told n (nxt R p (bestC R n p)) else ∀ c ∈ legal R p, Cov R side told n (nxt R p c)
theorem hold_cov {R side : Nat} {told : Psn → Option Nat} (hR : 0 < R) (hs : side < 2) : ∀ {n : Nat} {p : Psn} {g : Int}, Wf n p → Cov R side told n p → g ≤ Sd R side n p → hold R side told n p g = true
  | 0, p, g, w, _, h => by rw [Sd_zero w] at h; exact decide_eq_true h
  | n + 1, p, g, w, hc, h => by
    by_cases h0 : g ≤ 0
    · exact hold_le h0
    · unfold hold
      unfold Cov at hc
      rw [if_neg h0]
      by_cases ht : mover p % 2 = side
      · rw [if_pos ht] at hc ⊢
        rw [hc.1]
        obtain ⟨h1, _⟩ := bestC_mem (R := R) w
        have e := bestC_share hR hs ht w
        show (decide (bestC R n p ∈ legal R p) && hold R side told n (nxt R p (bestC R n p)) (g - gain R side p (bestC R n p))) = true
        rw [decide_eq_true h1, Bool.true_and]
        exact hold_cov hR hs (w.next hR h1) hc.2 (by omega)
      · rw [if_neg ht] at hc ⊢
        refine List.all_eq_true.mpr fun c hm => ?_
        have := (Sd_other hR hs ht w).1 c hm
        exact hold_cov hR hs (w.next hR hm) (hc c hm) (by omega)
theorem Cov.mono {R side : Nat} {t t' : Psn → Option Nat} (h : ∀ p c, t p = some c → t' p = some c) : ∀ {n : Nat} {p : Psn}, Cov R side t n p → Cov R side t' n p
  | 0, _, _ => trivial
  | n + 1, p, q => by
    unfold Cov at q ⊢
    by_cases ht : mover p % 2 = side
    · rw [if_pos ht] at q ⊢
      exact ⟨h _ _ q.1, q.2.mono h⟩
    · rw [if_neg ht] at q ⊢
      exact fun c hc => (q c hc).mono h

/-! ### sizes -/
/-- a bound of the nodes of the tree below a position with n cards -/
def Bn : Nat → Nat
  | 0 => 1
  | n + 1 => 1 + ((n + 4) / 4) * Bn n
/-- what the maker's solver learns at most -/
def Vn : Nat → Nat
  | 0 => 0
  | n + 1 => Bn (n + 1) + ((n + 4) / 4) * Vn n
theorem legal_le {R n : Nat} {p : Psn} (hR : 0 < R) (w : Wf (n + 1) p) : (legal R p).length ≤ (n + 4) / 4 := by
  have a := w.hand_len
  have b := legal_len (p := p) hR
  have ht := w.tk
  omega
theorem Bn_mono {m n : Nat} (h : m ≤ n) : Bn m ≤ Bn n := by
  induction h with
  | refl => exact Nat.le_refl _
  | @step k _ ih =>
    refine Nat.le_trans ih ?_
    show Bn k ≤ 1 + ((k + 4) / 4) * Bn k
    have : 1 * Bn k ≤ ((k + 4) / 4) * Bn k := Nat.mul_le_mul_right _ (by omega)
    omega
theorem Vn_mono {m n : Nat} (h : m ≤ n) : Vn m ≤ Vn n := by
  induction h with
  | refl => exact Nat.le_refl _
  | @step k _ ih =>
    refine Nat.le_trans ih ?_
    show Vn k ≤ Bn (k + 1) + ((k + 4) / 4) * Vn k
    have : 1 * Vn k ≤ ((k + 4) / 4) * Vn k := Nat.mul_le_mul_right _ (by omega)
    omega
theorem Bn_12 : Bn 12 = 7735 := by decide +kernel
theorem Vn_12 : Vn 12 ≤ 100000 := by decide +kernel
end Fi
/-! rules of our own: dicts whose keys are nested tuples of ints -/
namespace Fi
open PySem PySem.Spec PyProof.Rows L2

/-! ### nested tuples in the abstract heap -/
mutual
inductive NV (H : Hp) : V → NestedKey → Prop
  | int (i : Int) : NV H (.int i) (.num i)
  | tup {a : Addr} {xs : List V} {ks : List NestedKey} : H a = some (.tup xs) → NVs H xs ks → NV H (.ref a) (.tup ks)
inductive NVs (H : Hp) : List V → List NestedKey → Prop
  | nil : NVs H [] []
  | cons {x : V} {k : NestedKey} {xs : List V} {ks : List NestedKey} : NV H x k → NVs H xs ks → NVs H (x :: xs) (k :: ks)
end
/-- tuples stay -/
def TK (H H' : Hp) : Prop := ∀ a xs, H a = some (.tup xs) → H' a = some (.tup xs)
mutual
theorem NV.mono {H H' : Hp} (h : TK H H') : ∀ {v : V} {k : NestedKey}, NV H v k → NV H' v k
  | _, _, .int i => .int i
  | _, _, .tup e r => .tup (h _ _ e) (NVs.mono h r)
theorem NVs.mono {H H' : Hp} (h : TK H H') : ∀ {vs : List V} {ks : List NestedKey}, NVs H vs ks → NVs H' vs ks
  | _, _, .nil => .nil
  | _, _, .cons a b => .cons (NV.mono h a) (NVs.mono h b)
end
mutual
theorem NV.is {P : Program} {w : World} {H : Hp} {h : Heap} (ok : HOk P w H h) : ∀ {v : V} {k : NestedKey} {u : Value}, NV H v k → RelV v u → NestedIs h k u
  | _, _, u, .int i, r => by
    obtain ⟨t, rfl⟩ := r
    exact .int i t
  | _, _, u, .tup (a := a) (xs := xs) e rs, r => by
    obtain rfl : u = Value.ref a := r
    obtain ⟨_, its, rv, o, h1, h2, n, h3⟩ := (show ObjOk P w H h a (.tup xs) from ok a _ e)
    exact .tup h1 h2 h3 (by simpa using NVs.is ok rs rv)
theorem NVs.is {P : Program} {w : World} {H : Hp} {h : Heap} (ok : HOk P w H h) : ∀ {vs : List V} {ks : List NestedKey} {us : List Value}, NVs H vs ks → Vals vs us → NestedAll h ks us
  | _, _, _, .nil, .nil => .nil
  | _, _, _, .cons a b, .cons r rs => .cons (NV.is ok a r) (NVs.is ok b rs)
end
mutual
theorem NV.dp {K : PySem.W.Frag} {H : Hp} : ∀ {v : V} {k : NestedKey}, NV H v k → Dp K H v k.data
  | _, _, .int i => .int i
  | _, _, .tup e r => .tup (SqT.of e) (NVs.dp r)
theorem NVs.dp {K : PySem.W.Frag} {H : Hp} : ∀ {vs : List V} {ks : List NestedKey}, NVs H vs ks → DpAll K H vs (NestedKey.datas ks)
  | _, _, .nil => .nil
  | _, _, .cons a b => .cons (NV.dp a) (NVs.dp b)
end

/-! ### the dict -/
abbrev NE := NestedKey × Addr × V
def entN (w : World) (x : NestedKey × Addr × Value) : DictEntry := ⟨x.1.hash w, .ref x.2.1, x.2.2⟩
def RelN : NE → NestedKey × Addr × Value → Prop := fun p q => p.1 = q.1 ∧ p.2.1 = q.2.1 ∧ RelV p.2.2 q.2.2
def phN (w : World) (a : Addr) (xs : List NE) (h : Heap) : Prop := xs.length ≤ sizeLine ∧ (a == sysModules) = false ∧ ∃ ys : List (NestedKey × Addr × Value), Paired RelN xs ys ∧
  ∃ o es ep, h.get? a = some o ∧ o.ExactDict ∧ o.data = .dict es ep ∧ es.toList = ys.map (entN w) ∧ (xs.map (·.1)).Nodup
/-- a dict whose keys stand at the addresses told -/
def dN (w : World) (a : Addr) (xs : List NE) : HO := .ext (phN w a xs)
def KOk (H : Hp) (xs : List NE) : Prop := ∀ x ∈ xs, NV H (.ref x.2.1) x.1 ∧ x.1.depth ≤ 8
def plainN (xs : List NE) : List (NestedKey × V) := xs.map fun x => (x.1, x.2.2)
/-- at a stands a dict of nested keys: kvs -/
def DN (w : World) (H : Hp) (a : Addr) (kvs : List (NestedKey × V)) : Prop := ∃ xs, H a = some (dN w a xs) ∧ KOk H xs ∧ plainN xs = kvs
theorem KOk.mono {H H' : Hp} {xs : List NE} (h : TK H H') (k : KOk H xs) : KOk H' xs := fun x hx => ⟨(k x hx).1.mono h, (k x hx).2⟩
theorem DN.keep {w : World} {H H' : Hp} {a : Addr} {kvs : List (NestedKey × V)} (h : TK H H') (ha : ∀ o, H a = some o → H' a = some o) (d : DN w H a kvs) : DN w H' a kvs := by
  obtain ⟨xs, e, k, p⟩ := d
  exact ⟨xs, ha _ e, k.mono h, p⟩

theorem phN_ok {P : Program} {w : World} {H : Hp} {h : Heap} {a : Addr} {xs : List NE} (p : phN w a xs h) : ObjOk P w H h a (dN w a xs) := by
  refine ⟨p, ?_, fun h1 h2 q k => ?_⟩
  · obtain ⟨_, _, ys, _, o, _, _, e, _⟩ := p
    exact ⟨o, e⟩
  · obtain ⟨z, hd, ys, r, o, es, ep, e, c⟩ := q
    exact ⟨z, hd, ys, r, o, es, ep, k o e, c⟩

section
variable {P : Program} {w : World} {H : Hp} {h : Heap} {a : Addr} {kvs : List (NestedKey × V)} {xs : List NE} {ys : List (NestedKey × Addr × Value)}
theorem relN_keys : ∀ {xs : List NE} {ys : List (NestedKey × Addr × Value)}, Paired RelN xs ys → xs.map (·.1) = ys.map (·.1)
  | _, _, .nil => rfl
  | _, _, .cons a b => by rw [List.map_cons, List.map_cons, a.1, relN_keys b]
theorem relN_val : ∀ {xs : List NE} {ys : List (NestedKey × Addr × Value)} (r : Paired RelN xs ys) (k : NestedKey), RelO (valV (plainN xs) k) ((atKey ys k).map (·.2))
  | _, _, .nil, k => True.intro
  | p :: xs, q :: ys, .cons h t, k => by
    obtain ⟨h1, _, h2⟩ := h
    show RelO (valV ((p.1, p.2.2) :: plainN xs) k) _
    by_cases e : p.1 = k
    · have e' : q.1 = k := h1.symm.trans e
      have b : atKey (q :: ys) k = some q.2 := by simp [atKey, List.find?_cons, e']
      rw [valV_pos (p := (p.1, p.2.2)) e, b]; exact h2
    · have e' : ¬ q.1 = k := fun z => e (h1.trans z)
      have b : atKey (q :: ys) k = atKey ys k := by simp [atKey, List.find?_cons, e']
      rw [valV_neg (p := (p.1, p.2.2)) e, b]; exact relN_val t k
def putN (xs : List NE) (k : NestedKey) (b : Addr) (v : V) : List NE :=
  if (xs.any fun x => decide (x.1 = k)) = true then xs.map (fun x => if x.1 = k then (x.1, x.2.1, v) else x) else xs ++ [(k, b, v)]
theorem plain_any (k : NestedKey) : ∀ xs : List NE, ((plainN xs).any fun kv => decide (kv.1 = k)) = xs.any fun x => decide (x.1 = k)
  | [] => rfl
  | x :: xs => by
    show (decide (x.1 = k) || (plainN xs).any _) = (decide (x.1 = k) || _)
    rw [plain_any k xs]
theorem plain_put (k : NestedKey) (b : Addr) (v : V) (xs : List NE) : plainN (putN xs k b v) = putK (plainN xs) k v := by
  unfold putN putK
  rw [plain_any]
  split
  · unfold plainN
    rw [List.map_map, List.map_map]
    refine List.map_congr_left fun x _ => ?_
    show ((if x.1 = k then (x.1, x.2.1, v) else x).1, (if x.1 = k then (x.1, x.2.1, v) else x).2.2) = if x.1 = k then (x.1, v) else (x.1, x.2.2)
    split <;> rfl
  · unfold plainN
    rw [List.map_append]; rfl
theorem relN_any (k : NestedKey) : ∀ {xs : List NE} {ys : List (NestedKey × Addr × Value)}, Paired RelN xs ys → (xs.any fun x => decide (x.1 = k)) = (atKey ys k).isSome
  | _, _, .nil => rfl
  | p :: xs, q :: ys, .cons h t => by
    obtain ⟨h1, _⟩ := h
    rw [List.any_cons, relN_any k t]
    by_cases e : p.1 = k
    · have e' : q.1 = k := h1.symm.trans e
      have b : atKey (q :: ys) k = some q.2 := by simp [atKey, List.find?_cons, e']
      rw [b, decide_eq_true e]; rfl
    · have e' : ¬ q.1 = k := fun z => e (h1.trans z)
      have b : atKey (q :: ys) k = atKey ys k := by simp [atKey, List.find?_cons, e']
      rw [b, decide_eq_false e, Bool.false_or]
theorem relN_repl (k : NestedKey) {v : V} {u : Value} (rv : RelV v u) : ∀ {xs : List NE} {ys : List (NestedKey × Addr × Value)}, Paired RelN xs ys → Paired RelN (xs.map fun x => if x.1 = k then (x.1, x.2.1, v) else x) (ys.map (putAt k u))
  | _, _, .nil => .nil
  | p :: xs, q :: ys, .cons h t => by
    obtain ⟨h1, h2, h3⟩ := h
    rw [List.map_cons, List.map_cons]
    refine .cons ?_ (relN_repl k rv t)
    unfold putAt
    by_cases e : p.1 = k
    · rw [if_pos e, if_pos (h1.symm.trans e)]; exact ⟨h1, h2, rv⟩
    · rw [if_neg e, if_neg (fun z => e (h1.trans z))]; exact ⟨h1, h2, h3⟩
theorem relN_put (k : NestedKey) (b : Addr) {v : V} {u : Value} (rv : RelV v u) (r : Paired RelN xs ys) : Paired RelN (putN xs k b v) (storedH ys k b u) := by
  unfold putN storedH
  rw [relN_any k r]
  by_cases q : (atKey ys k).isSome = true
  · rw [if_pos q, if_pos q]; exact relN_repl k rv r
  · rw [if_neg q, if_neg q]; exact Paired.snoc r ⟨rfl, rfl, rv⟩
theorem dN_of (ok : HOk P w H h) (d : DN w H a kvs) : kvs.length ≤ sizeLine ∧ (a == sysModules) = false ∧ ∃ xs ys, H a = some (dN w a xs) ∧ KOk H xs ∧ plainN xs = kvs ∧ Paired RelN xs ys ∧ h.DictOfH (nestedKind P w) a ys := by
  obtain ⟨xs, e, k, p⟩ := d
  obtain ⟨⟨z, hd, ys, r, o, es, ep, h1, h2, h3, h4, h5⟩, _⟩ := (show ObjOk P w H h a (dN w a xs) from ok a _ e)
  refine ⟨by rw [← p]; unfold plainN; rw [List.length_map]; exact z, hd, xs, ys, e, k, p, r, o, es, ep, h1, h2, h3, h4, fun y hy => ?_, by rw [← relN_keys r]; exact h5⟩
  have all : ∀ {xs : List NE} {ys : List (NestedKey × Addr × Value)}, Paired RelN xs ys → KOk H xs → ∀ y ∈ ys, (nestedKind P w).is h y.1 y.2.1 := by
    intro xs ys r
    induction r with
    | nil => intro _ y hy; cases hy
    | @cons p q ps qs hq t ih =>
      intro k y hy
      rcases List.mem_cons.mp hy with e | hy
      · subst e
        obtain ⟨n1, n2⟩ := k p (List.mem_cons_self ..)
        obtain ⟨h1, h2, _⟩ := hq
        rw [← h1, ← h2]
        exact ⟨n1.is ok rfl, n2⟩
      · exact ih (fun x hx => k x (List.mem_cons_of_mem _ hx)) y hy
  exact all r k y hy
theorem room_in1 {A : Around} (hu : A.units + 64 < cLine) : (nestedKind P w).room A.in1 := by
  show A.units + 1 + 8 < cLine
  omega
end

section
variable {X : Cx} {pins : List (Addr × Obj)} {σ : L2.St} {H : Hp} {s : Shared} {a b : Addr} {k : NestedKey} {kvs : List (NestedKey × V)} {v : V} {u r : Value} {A : Around} {E : Value → Shared → Prop}
theorem n_getItem {Q : Value → Shared → Prop} (hu : A.units + 64 < cLine) (I : Inv X pins σ H s) (d : DN X.w H a kvs) (hk : NV H (.ref b) k) (hdp : k.depth ≤ 8) (l : valV kvs k = some v) (h : ∀ w' s', Inv X pins σ H s' → RelV v w' → Q w' s') :
    wpAny (model X.prog X.w) A (getItem (.ref a) (.ref b)) Q E s := by
  obtain ⟨z, hd, xs, ys, e, kk, p, rel, dd⟩ := dN_of I.hok d
  obtain ⟨w', hw, rw'⟩ := RelO.some_of (v := v) (o := (atKey ys k).map (·.2)) (by rw [← l, ← p]; exact relN_val rel k)
  obtain ⟨q, hq, hq2⟩ := Option.map_eq_some_iff.mp hw
  refine wpAny_getItem_heap (room_in1 hu) ⟨hk.is I.hok rfl, hdp⟩ dd hq ?_
  rw [hq2]
  exact h w' _ (I.tok _) rw'
theorem n_in {Q : Value → Shared → Prop} (hu : A.units + 64 < cLine) (I : Inv X pins σ H s) (d : DN X.w H a kvs) (hk : NV H (.ref b) k) (hdp : k.depth ≤ 8) (h : ∀ s', Inv X pins σ H s' → Q (.bool (valV kvs k).isSome) s') :
    wpAny (model X.prog X.w) A (compareOp .In (.ref b) (.ref a)) Q E s := by
  obtain ⟨z, hd, xs, ys, e, kk, p, rel, dd⟩ := dN_of I.hok d
  refine wpAny_in_heap (room_in1 hu) ⟨hk.is I.hok rfl, hdp⟩ hd dd ?_
  have q := (relN_val rel k).isSome_eq
  rw [Option.isSome_map, p] at q
  rw [← q]
  exact h _ (I.tok _)
theorem n_notIn {Q : Value → Shared → Prop} (hu : A.units + 64 < cLine) (I : Inv X pins σ H s) (d : DN X.w H a kvs) (hk : NV H (.ref b) k) (hdp : k.depth ≤ 8) (h : ∀ s', Inv X pins σ H s' → Q (.bool (!(valV kvs k).isSome)) s') :
    wpAny (model X.prog X.w) A (compareOp .NotIn (.ref b) (.ref a)) Q E s := by
  obtain ⟨z, hd, xs, ys, e, kk, p, rel, dd⟩ := dN_of I.hok d
  refine wpAny_notIn_heap (room_in1 hu) ⟨hk.is I.hok rfl, hdp⟩ hd dd ?_
  have q := (relN_val rel k).isSome_eq
  rw [Option.isSome_map, p] at q
  rw [← q]
  exact h _ (I.tok _)
theorem n_get2 {d : V} {Q : Value → Shared → Prop} (hu : A.units + 64 < cLine) (I : Inv X pins σ H s) (g : DN X.w H a kvs) (hk : NV H (.ref b) k) (hdp : k.depth ≤ 8) (rd : RelV d r) (h : ∀ w' s', Inv X pins σ H s' → RelV ((valV kvs k).getD d) w' → Q w' s') :
    wpAny (model X.prog X.w) A (call (.builtin "dict.get") [.ref a, .ref b, r]) Q E s := by
  obtain ⟨z, hd, xs, ys, e, kk, p, rel, dd⟩ := dN_of I.hok g
  refine call_meetsIn PySem.F.slot_dict_get dd.typeIs PySem.F.entry_dict_get (PySem.F.args_dict_get_3 _ _ _) (meetsH_dict_get_default (nestedKind X.prog X.w) a b hd r) ⟨room_in1 hu, k, ys, ⟨hk.is I.hok rfl, hdp⟩, dd, h _ _ (I.tok _) ?_⟩
  rw [← p]
  exact (relN_val rel k).getD rd
theorem tk_upd {o o' : HO} (h : H a = some o) (n : ∀ xs, o ≠ .tup xs) : TK H (upd H a o') := fun c ys e => by
  rw [upd_ne (fun z => by rw [z, h] at e; exact n ys (Option.some.inj e))]
  exact e
theorem length_putN (xs : List NE) (k : NestedKey) (b : Addr) (v : V) : (putN xs k b v).length ≤ xs.length + 1 := by
  unfold putN
  split
  · rw [List.length_map]; omega
  · rw [List.length_append, List.length_cons, List.length_nil]; omega
theorem n_setItem {Q : Unit → Shared → Prop} (hu : A.units + 64 < cLine) (I : Inv X pins σ H s) (d : DN X.w H a kvs) (hk : NV H (.ref b) k) (hdp : k.depth ≤ 8) (hl : kvs.length < sizeLine) (rv : RelV v r)
    (h : ∀ o s', DN X.w (upd H a o) a (putK kvs k v) → Inv X pins σ (upd H a o) s' → Q () s') : wpAny (model X.prog X.w) A (setItem (.ref a) (.ref b) r) Q E s := by
  obtain ⟨z, hd, xs, ys, e, kk, p, rel, dd⟩ := dN_of I.hok d
  have lx : xs.length = kvs.length := by rw [← p]; unfold plainN; rw [List.length_map]
  have hz : ys.length ≤ sizeLine := by rw [← Paired.length rel, lx]; exact z
  refine wpAny_setItem_heap (hsz := hz) (room_in1 hu) ⟨hk.is I.hok rfl, hdp⟩ dd fun h' dd' hs => ?_
  obtain ⟨q, es, ep, hq, h2, h3, h4, _, h5⟩ := dd'
  have r2 := relN_put k b rv rel
  have tk : TK H (upd H a (dN X.w a (putN xs k b v))) := tk_upd e (fun xs z => nomatch z)
  have k2 : KOk (upd H a (dN X.w a (putN xs k b v))) (putN xs k b v) := by
    intro x hx
    unfold putN at hx
    split at hx
    · obtain ⟨y, hy, ey⟩ := List.mem_map.mp hx
      obtain ⟨n1, n2⟩ := kk y hy
      have e1 : x.1 = y.1 ∧ x.2.1 = y.2.1 := by
        rw [← ey]
        split <;> exact ⟨rfl, rfl⟩
      rw [e1.1, e1.2]
      exact ⟨n1.mono tk, n2⟩
    · rcases List.mem_append.mp hx with hx | hx
      · obtain ⟨n1, n2⟩ := kk x hx
        exact ⟨n1.mono tk, n2⟩
      · rw [List.mem_singleton.mp hx]
        exact ⟨hk.mono tk, hdp⟩
  refine h (dN X.w a (putN xs k b v)) _ ⟨_, upd_same, k2, by rw [plain_put, p]⟩ (d_write I (by rw [e]; exact True.intro) hs ⟨q, hq⟩ ?_)
  refine phN_ok ⟨?_, hd, _, r2, q, es, ep, hq, h2, h3, h4, by rw [relN_keys r2]; exact h5⟩
  have := length_putN xs k b v
  omega
theorem n_len {Q : Value → Shared → Prop} (I : Inv X pins σ H s) (d : DN X.w H a kvs) (h : ∀ t s', Inv X pins σ H s' → Q (.int kvs.length t) s') : wpAny (model X.prog X.w) A (call (.builtin "len") [.ref a]) Q E s := by
  obtain ⟨z, hd, xs, ys, e, kk, p, rel, dd⟩ := dN_of I.hok d
  have lx : ys.length = kvs.length := by rw [← Paired.length rel, ← p]; unfold plainN; rw [List.length_map]
  refine call_len_dictH hd dd (by rw [lx]; rw [sizeLine_eq] at z; omega) ?_
  rw [lx]
  exact h _ _ (I.tok _)
theorem n_there (I : Inv X pins σ H s) (d : DN X.w H a kvs) : s.TypeIs (.ref a) "dict" ∧ (∀ b, Value.ref a = .ref b → ∃ ob, s.heap.get? b = some ob ∧ ob.dict = none) ∧ (a == sysModules) = false := by
  obtain ⟨z, hd, xs, ys, e, kk, p, rel, dd⟩ := dN_of I.hok d
  refine ⟨dd.typeIs, fun b q => ?_, hd⟩
  cases q
  obtain ⟨ob, _, _, h1, h2, _⟩ := dd
  exact ⟨ob, h1, h2.2.1⟩
end

/-! ### readings and rules -/
/-- the key that stands at y -/
def KeyAt (H : Hp) (y : V) (b : Addr) (k : NestedKey) : Prop := y = .ref b ∧ NV H (.ref b) k ∧ k.depth ≤ 8
def tNGet (w : World) (td ty : TE) : TE := fun σ H Q => td σ H fun x H1 => ty σ H1 fun y H2 => ∃ a b k kvs v, x = .ref a ∧ KeyAt H2 y b k ∧ DN w H2 a kvs ∧ valV kvs k = some v ∧ Q v H2
def tNIn (w : World) (ty td : TE) : TE := fun σ H Q => ty σ H fun y H1 => td σ H1 fun x H2 => ∃ a b k kvs, x = .ref a ∧ KeyAt H2 y b k ∧ DN w H2 a kvs ∧ Q (.bl (valV kvs k).isSome) H2
def tNNotIn (w : World) (ty td : TE) : TE := fun σ H Q => ty σ H fun y H1 => td σ H1 fun x H2 => ∃ a b k kvs, x = .ref a ∧ KeyAt H2 y b k ∧ DN w H2 a kvs ∧ Q (.bl (!(valV kvs k).isSome)) H2
def tNGet2 (w : World) (td ty tx : TE) : TE := fun σ H Q => td σ H fun x H1 => ∃ a, x = .ref a ∧ (∃ kvs, DN w H1 a kvs) ∧ ty σ H1 fun y H2 => tx σ H2 fun z H3 => ∃ b k kvs, KeyAt H3 y b k ∧ DN w H3 a kvs ∧ Q ((valV kvs k).getD z) H3
def sNPut (w : World) (td ty tv : TE) : TS := fun D σ H => tv σ H fun v H1 => td σ H1 fun x H2 => ty σ H2 fun y H3 => ∃ a b k kvs, x = .ref a ∧ KeyAt H3 y b k ∧ DN w H3 a kvs ∧ kvs.length < sizeLine ∧
  ∀ o, DN w (upd H3 a o) a (putK kvs k v) → D.nx σ (upd H3 a o)
def tNNew (w : World) : TE := fun _ H Q => ∀ p o, H p = none → DN w (upd H p o) p [] → Q (.ref p) (upd H p o)
def rNLen (w : World) : List V → Hp → VK → Prop := fun xs H Q => ∃ a kvs, xs = [.ref a] ∧ DN w H a kvs ∧ Q (.int (kvs.length : Nat)) H
section
variable {X : Cx} {o i e f value : Expr} {pos pos' apos cpos : Pos} {td ty tv tx : TE}
theorem pe_nget (hu : X.A.units + 64 < cLine) (ho : PE X o td) (hi : PE X i ty) (hs : NoSl i) : PE X (.Subscript o i pos) (tNGet X.w td ty) := by
  refine ⟨fun pins s σ H Q I h => ?_⟩
  refine subD_of PySem.F.slot_dict_getitem.lookup hs (thn (ho.run pins s σ H _ I h) fun u s1 ⟨x, H1, I1, rx, q1⟩ => thn (hi.run pins s1 σ H1 _ I1 q1) fun iv s2 ⟨y, H2, I2, ry, a, b, k, kvs, v, ex, ⟨ey, nk, dk⟩, g, l, q2⟩ => ?_)
  subst ex ey
  obtain rfl : u = Value.ref a := rx
  obtain rfl : iv = Value.ref b := ry
  exact ⟨(n_there I2 g).1, n_getItem hu I2 g nk dk l fun w' s3 I3 rw' => ⟨v, H2, I3, rw', q2⟩⟩
theorem pc_nin (hu : X.A.units + 64 < cLine) (hi : PE X i ty) (ho : PE X o td) : PC X .In i o (tNIn X.w ty td) := by
  refine ⟨fun pins s σ H Q I h => ?_⟩
  refine thn (hi.run pins s σ H _ I h) fun iv s1 ⟨y, H1, I1, ry, q1⟩ => thn (ho.run pins s1 σ H1 _ I1 q1) fun u s2 ⟨x, H2, I2, rx, a, b, k, kvs, ex, ⟨ey, nk, dk⟩, g, q2⟩ => ?_
  subst ex ey
  obtain rfl : u = Value.ref a := rx
  obtain rfl : iv = Value.ref b := ry
  exact n_in hu I2 g nk dk fun s3 I3 => ⟨.bl (valV kvs k).isSome, H2, I3, rfl, q2⟩
theorem pc_nnotin (hu : X.A.units + 64 < cLine) (hi : PE X i ty) (ho : PE X o td) : PC X .NotIn i o (tNNotIn X.w ty td) := by
  refine ⟨fun pins s σ H Q I h => ?_⟩
  refine thn (hi.run pins s σ H _ I h) fun iv s1 ⟨y, H1, I1, ry, q1⟩ => thn (ho.run pins s1 σ H1 _ I1 q1) fun u s2 ⟨x, H2, I2, rx, a, b, k, kvs, ex, ⟨ey, nk, dk⟩, g, q2⟩ => ?_
  subst ex ey
  obtain rfl : u = Value.ref a := rx
  obtain rfl : iv = Value.ref b := ry
  exact n_notIn hu I2 g nk dk fun s3 I3 => ⟨.bl (!(valV kvs k).isSome), H2, I3, rfl, q2⟩
theorem pe_nget2 (hu : X.A.units + 64 < cLine) (ho : PE X o td) (he : PE X e ty) (hf : PE X f tx) (m : M2 X o "get" apos e f cpos) : PE X (.Call (.Attribute o "get" apos) [e, f] [] cpos) (tNGet2 X.w td ty tx) := by
  refine ⟨fun pins s σ H Q I h => ?_⟩
  refine wpAny_Call_method m.base m.few m.line PySem.F.plainAttrs_dict PySem.F.slot_dict_get PySem.F.type_dict_get (thn (ho.run pins s σ H _ I h) fun u s1 ⟨x, H1, I1, rx, a, ex, ⟨kvs0, d⟩, q1⟩ => ?_)
  subst ex
  obtain rfl : u = Value.ref a := rx
  obtain ⟨t1, t2, _⟩ := n_there I1 d
  refine ⟨t1, t2, ?_⟩
  rw [m.trees]
  refine Calls.callWith_builtin rfl (Calls.evalArgs_plain (Calls.spliced_cons (thn (he.run pins s1 σ H1 _ I1 q1) fun iv s2 ⟨y, H2, I2, ry, q2⟩ =>
    Calls.spliced_cons (thn (hf.run pins s2 σ H2 _ I2 q2) fun fv s3 ⟨z, H3, I3, rz, b, k, kvs, ⟨ey, nk, dk⟩, g, q3⟩ => Calls.spliced_nil ?_))))
  subst ey
  obtain rfl : iv = Value.ref b := ry
  exact n_get2 hu I3 g nk dk rz fun w' s4 I4 rw' => ⟨_, H3, I4, rw', q3⟩
theorem ps_nput (hu : X.A.units + 64 < cLine) (ho : PE X o td) (hi : PE X i ty) (hv : PE X value tv) (hs : swapsWith value (some (.Subscript o i pos')) pos.line X.env = pure false) :
    PS X (.Assign [.Subscript o i pos'] value pos) (sNPut X.w td ty tv) := by
  refine ⟨fun pins s σ H D I h => ?_⟩
  refine wpAny_Assign_Subscript (thn (hv.run pins s σ H _ I h) fun r s1 ⟨v, H1, I1, rv, q1⟩ => thn (ho.run pins s1 σ H1 _ I1 q1) fun u s2 ⟨x, H2, I2, rx, q2⟩ => thn (hi.run pins s2 σ H2 _ I2 q2) fun iv s3 ⟨y, H3, I3, ry, a, b, k, kvs, ex, ⟨ey, nk, dk⟩, g, l, q3⟩ => ?_) hs
  subst ex ey
  obtain rfl : u = Value.ref a := rx
  obtain rfl : iv = Value.ref b := ry
  exact n_setItem hu I3 g nk dk l rv fun ob s4 d4 I4 => ⟨σ, _, I4, q3 ob d4⟩
theorem dn_empty {w : World} {H : Hp} {p : Addr} : DN w (upd H p (dN w p [])) p [] := ⟨[], upd_same, (fun x hx => nomatch hx), rfl⟩
theorem pe_nnew : PE X (.Dict [] [] pos) (tNNew X.w) := ⟨fun pins s σ H Q I h =>
  wpAny_Dict_empty ⟨.ref s.heap.objs.size, _, I.laid (a := s.heap.objs.size) (o := dN X.w s.heap.objs.size []) (t' := s.toks) (fun _ _ q => Heap.get?_push_of_some _ q) (Nat.le_refl _)
    (phN_ok ⟨Nat.zero_le _, beq_eq_false_iff_ne.mpr (Ne.symm (Nat.ne_of_lt I.big)), [], .nil, _, #[], 0, Heap.get?_push_size _ rfl, ⟨rfl, rfl, rfl⟩, rfl, rfl, List.nodup_nil⟩), rfl, h _ _ (I.hok.fresh (Nat.le_refl _)) dn_empty⟩⟩
theorem call_lenN : CallR X (.builtin "len") (rNLen X.w) := by
  intro pins s σ H xs us Q I r h
  obtain ⟨a, kvs, rfl, d, q⟩ := h
  obtain ⟨u, rfl, rx⟩ := vals1 r
  obtain rfl : u = .ref a := rx
  exact n_len I d fun t s' I' => ⟨.int (kvs.length : Nat), H, I', ⟨t, rfl⟩, q⟩
end
end Fi
/-! rules of our own: sorted of pairs (nested key, int), tuple(..), dict(..) of such -/
namespace Fi
open PySem PySem.Spec PyProof.Rows L2 PySem.W

mutual
theorem NV.reads {P : Program} {w : World} {H : Hp} {h : Heap} (ok : HOk P w H h) : ∀ {v : V} {k : NestedKey} {u : Value}, NV H v k → L2.RelV v u → Reads h u k.data []
  | _, _, u, .int i, r => by
    obtain ⟨t, rfl⟩ := r
    exact .int i t
  | _, _, u, .tup (a := a) (xs := xs) e rs, r => by
    obtain rfl : u = Value.ref a := r
    obtain ⟨_, its, rv, o, h1, h2, n, h3⟩ := (show ObjOk P w H h a (.tup xs) from ok a _ e)
    exact .tuple h1 h2 h3 (by simpa using NVs.reads ok rs rv)
theorem NVs.reads {P : Program} {w : World} {H : Hp} {h : Heap} (ok : HOk P w H h) : ∀ {vs : List V} {ks : List NestedKey} {us : List Value}, NVs H vs ks → Vals vs us → ReadsAll h us (NestedKey.datas ks) []
  | _, _, _, .nil, .nil => .nil
  | _, _, _, .cons a b, .cons r rs => .cons (as := []) (bs := []) (NV.reads ok a r) (NVs.reads ok b rs)
end

section
variable {β : Type} (kf : β → NestedKey) (vf : β → Int)
def encP (b : β) : PyData := .tuple [(kf b).data, .int (vf b)]
/-- at the addresses ps stand the pairs bs -/
def PairOf (H : Hp) (a : Addr) (b : β) : Prop := ∃ ka, H a = some (.tup [.ref ka, .int (vf b)]) ∧ NV H (.ref ka) (kf b)
def PairsH (H : Hp) (ps : List Addr) (bs : List β) : Prop := Paired (PairOf kf vf H) ps bs
variable {kf vf}
theorem PairOf.mono {H H' : Hp} {a : Addr} {b : β} (t : TK H H') (h : PairOf kf vf H a b) : PairOf kf vf H' a b := let ⟨ka, e, n⟩ := h; ⟨ka, t _ _ e, n.mono t⟩
theorem PairsH.mono {H H' : Hp} {ps : List Addr} {bs : List β} (t : TK H H') (h : PairsH kf vf H ps bs) : PairsH kf vf H' ps bs := Paired.mapP h fun _ _ q => q.mono t
theorem PairOf.reads {P : Program} {w : World} {H : Hp} {h : Heap} (ok : HOk P w H h) {a : Addr} {b : β} (p : PairOf kf vf H a b) : Reads h (.ref a) (encP kf vf b) [] := by
  obtain ⟨ka, e, n⟩ := p
  obtain ⟨_, its, rv, o, h1, h2, m, h3⟩ := (show ObjOk P w H h a (.tup [.ref ka, .int (vf b)]) from ok a _ e)
  obtain ⟨u, w', e1, r1, r2⟩ := vals2 rv
  subst e1
  obtain rfl : u = Value.ref ka := r1
  obtain ⟨t, rfl⟩ := r2
  exact .tuple h1 h2 h3 (show ReadsAll h [Value.ref ka, Value.int (vf b) t] [(kf b).data, .int (vf b)] [] from .cons (as := []) (bs := []) (n.reads ok rfl) (.cons (as := []) (bs := []) (.int _ _) .nil))

/-- what the sort asks of the keys -/
structure KAlike (kf : β → NestedKey) (bs : List β) : Prop where
  al : ∀ b ∈ bs, ∀ b' ∈ bs, alike (kf b).data (kf b').data = true
  dp : ∀ b ∈ bs, (kf b).data.depth ≤ 8
theorem KAlike.all {bs : List β} (k : KAlike kf bs) : AllAlike (bs.map (encP kf vf)) := by
  intro d hd d' hd'
  obtain ⟨b, hb, rfl⟩ := List.mem_map.mp hd
  obtain ⟨b', hb', rfl⟩ := List.mem_map.mp hd'
  show alikeAll [(kf b).data, .int (vf b)] [(kf b').data, .int (vf b')] = true
  rw [alikeAll, k.al b hb b' hb']
  rfl
theorem sortable_enc {bs : List β} : Sortable (bs.map (encP kf vf)) := Sortable.tuples fun b => ⟨_, _, rfl⟩
theorem depth_enc {bs : List β} (k : KAlike kf bs) : ∀ b ∈ bs, (encP kf vf b).depth ≤ 9 := fun b hb => by
  have := k.dp b hb
  show PyData.depthAll [(kf b).data, .int (vf b)] + 1 ≤ 9
  simp only [PyData.depthAll, PyData.depth]
  omega
theorem each_refs {Pr : Addr → β → Prop} : ∀ {ps : List Addr} {bs : List β}, Paired Pr ps bs → EachIs (fun v b => ∃ a, v = Value.ref a ∧ Pr a b) (ps.map Value.ref) bs
  | _, _, .nil => .nil
  | _, _, .cons h t => .cons ⟨_, rfl, h⟩ (each_refs t)
theorem refs_each {Pr : Addr → β → Prop} : ∀ {out : List Value} {bs : List β}, EachIs (fun v b => ∃ a, v = Value.ref a ∧ Pr a b) out bs → ∃ ps : List Addr, out = ps.map Value.ref ∧ Paired Pr ps bs
  | _, _, .nil => ⟨[], rfl, .nil⟩
  | _, _, .cons ⟨a, e, h⟩ t => by
    obtain ⟨ps, e2, p2⟩ := refs_each t
    exact ⟨a :: ps, by rw [e, e2]; rfl, .cons h p2⟩
end

section
variable {X : Cx} {pins : List (Addr × Obj)} {σ : L2.St} {H : Hp} {s : Shared} {A : Around} {E : Value → Shared → Prop} {β : Type} {enc : β → PyData}
/-- list.sort of a list that was just laid -/
theorem sort_step {Pr : Addr → β → Prop} {h1 : Heap} {tk : Nat} {ps : List Addr} {bs : List β} {Q : Value → Shared → Prop} (pr : Paired Pr ps bs) (er : ∀ a b, a ∈ ps → b ∈ bs → Pr a b → Reads h1 (.ref a) (enc b) [])
    (al : AllAlike (bs.map enc)) (so : Sortable (bs.map enc)) (dp : ∀ b ∈ bs, (enc b).depth ≤ 9) (hL : bs.length ≤ sizeLine) (hu : A.units + 64 < cLine)
    (h : ∀ ps' h3, Paired Pr ps' (bs.mergeSort (dataLe false enc)) → (∀ b o, h1.get? b = some o → h3.get? b = some o) → (∃ e, h3.get? h1.objs.size = some (seqObj "list" (ps'.map Value.ref).toArray e)) → Q (.ref h1.objs.size) { s with heap := h3, toks := tk }) :
    wpAny (model X.prog X.w) A.in1 (call (.builtin "list.sort") [.ref h1.objs.size]) (fun _ s' => Q (.ref h1.objs.size) s') E { s with heap := h1.push { cls := .type "list", data := .seq (ps.map Value.ref).toArray }, toks := tk } := by
  have hob : (h1.push { cls := .type "list", data := .seq (ps.map Value.ref).toArray }).get? h1.objs.size = some (seqObj "list" (ps.map Value.ref).toArray 0) := Heap.get?_push_size _ rfl
  have er2 : EachIs (fun v b => ∃ as, Reads (h1.push { cls := .type "list", data := .seq (ps.map Value.ref).toArray }) v (enc b) as ∧ h1.objs.size ∉ as) (ps.map Value.ref) bs := by
    have mem : ∀ {ps0 : List Addr} {bs0 : List β}, Paired Pr ps0 bs0 → (∀ a ∈ ps0, a ∈ ps) → (∀ b ∈ bs0, b ∈ bs) → EachIs (fun v b => ∃ as, Reads (h1.push { cls := .type "list", data := .seq (ps.map Value.ref).toArray }) v (enc b) as ∧ h1.objs.size ∉ as) (ps0.map Value.ref) bs0 := by
      intro ps0 bs0 p
      induction p with
      | nil => intro _ _; exact .nil
      | cons hp _ ih =>
        intro m1 m2
        refine .cons ⟨[], PyProof.Rows.Reads.keeps (fun _ _ e => Heap.get?_push_of_some _ e) (er _ _ (m1 _ (List.mem_cons_self ..)) (m2 _ (List.mem_cons_self ..)) hp), by simp⟩ (ih (fun a ha => m1 a (List.mem_cons_of_mem _ ha)) fun b hb => m2 b (List.mem_cons_of_mem _ hb))
    exact mem pr (fun _ q => q) fun _ q => q
  refine list_sort_data (s := { s with heap := h1.push { cls := .type "list", data := .seq (ps.map Value.ref).toArray }, toks := tk }) hob (each_refs pr) er2 al so hL (fun b hb => ?_) fun out hlen ho => ?_
  · have := dp b hb
    show A.units + 1 + 1 + _ < _
    omega
  · obtain ⟨ps', rfl, pp⟩ := refs_each ho
    obtain ⟨e, he⟩ := sortedHeap_at (vs := ps.map Value.ref) (out := (ps'.map Value.ref).toArray) hob
    refine h ps' _ pp (fun b o q => ?_) ⟨e, he⟩
    have hb : b ≠ h1.objs.size := Nat.ne_of_lt (Heap.lt_size q)
    exact (sortedHeap_old hb (Heap.lt_size (Heap.get?_push_of_some _ q))).trans (Heap.get?_push_of_some _ q)
end

section
variable {X : Cx} {β : Type} {kf : β → NestedKey} {vf : β → Int}
/-- sorted of a tuple (or list) of pairs -/
def rSortT (K : PySem.W.Frag) (kf : β → NestedKey) (vf : β → Int) : List V → Hp → VK → Prop := fun xs H Q => ∃ t ps bs, xs = [.ref t] ∧ SqT K H t (ps.map V.ref) ∧ PairsH kf vf H ps bs ∧ KAlike kf bs ∧
  ∀ l ps', H l = none → PairsH kf vf H ps' (bs.mergeSort (dataLe false (encP kf vf))) → Q (.ref l) (upd H l (.lst (ps'.map V.ref)))
theorem len_paired {α γ : Type} {F : α → γ → Prop} {a : List α} {b : List γ} (h : Paired F a b) : a.length = b.length := Paired.length h
theorem cr_sortT (hu : X.A.units + 64 < cLine) : CallR X (.builtin "sorted") (rSortT X.K kf vf) := by
  intro pins s σ H xs us Q I r h
  obtain ⟨t, ps, bs, rfl, ht, pp, ka, q⟩ := h
  obtain rfl := Vals.ref1 r
  obtain ⟨its, rv, pl, hz⟩ := I.tuple ht
  have ei := refs_at rv
  subst ei
  obtain ⟨o, ho, hc, n, hd⟩ := pl
  have hlen : bs.length = ps.length := (len_paired pp).symm
  rw [List.length_map] at hz
  refine Calls.call_function_entry PyProof.Rows.kind_sorted PyProof.Rows.plain_sorted PyProof.Rows.entry_sorted (PyProof.Rows.args_sorted1 _) ?_
  unfold Builtin.«sorted»
  refine wpAny_bind (m := checkCount "sorted" 1 1 _) (wpAny_pure ?_)
  refine wpAny_bind (wpAny_collect_seq t (.inr rfl) ho hc hd (fun h' hk => ?_) (by rw [List.size_toArray, List.length_map]; exact hz))
  refine wpAny_bind (wpAny_newList ?_ (by simpa using hz))
  have I1 : Inv X pins σ H { s with heap := h' } := I.kept (t' := s.toks) hk
  have er : ∀ a b, a ∈ ps → b ∈ bs → PairOf kf vf H a b → Reads h' (.ref a) (encP kf vf b) [] := fun a b _ _ p => p.reads I1.hok
  have key := sort_step (X := X) (s := s) (A := X.A) (E := X.xe) (tk := s.toks) (Q := EP X pins σ Q) pp er ka.all sortable_enc (depth_enc ka) (by omega) hu (fun ps' h3 pp' hk3 hl => by
    obtain ⟨e, hl⟩ := hl
    have kS : ∀ b o, s.heap.get? b = some o → h3.get? b = some o := fun b o e => hk3 b o (hk b o e)
    have hn0 : H h'.objs.size = none := I1.hok.fresh (Nat.le_refl _)
    have I3 : Inv X pins σ H { s with heap := h3, toks := s.toks } := I1.kept (t' := s.toks) hk3
    have lz : (ps'.map V.ref).length ≤ sizeLine := by
      rw [List.length_map, len_paired pp', List.length_mergeSort]
      omega
    have I4 : Inv X pins σ (upd H h'.objs.size (.lst (ps'.map V.ref))) { s with heap := h3, toks := s.toks } :=
      I3.take (h' := h3) (t' := s.toks) (fun b ob _ e => e) (I1.fpOk (Nat.le_refl _) hn0) ⟨lz, ps'.map Value.ref, e, vals_maps _ _ _ fun _ _ => rfl, hl⟩
    exact ⟨.ref h'.objs.size, _, I4, rfl, q _ ps' hn0 pp'⟩)
  refine wpAny_bind (wpAny_holding (wpAny_mono (by simpa using key) (fun _ s' x => ?_) fun _ _ e => e))
  exact wpAny_pure ⟨_, rfl, x⟩
end
end Fi
/-! rules of our own: d.items() and sorted of it, tuple(..) frozen, dict(..), isinstance, max and min of values -/
namespace Fi
open PySem PySem.Spec PyProof.Rows L2 PySem.W

section
variable {X : Cx}
/-- d.items() of a dict of nested keys -/
def tNItems (w : World) (td : TE) : TE := fun σ H Q => td σ H fun x H1 => ∃ a kvs, x = .ref a ∧ DN w H1 a kvs ∧ ∀ p, H1 p = none → Q (.ref p) (upd H1 p (DX.itemsO p a))
theorem pe_nitems {o : Expr} {td : TE} {apos cpos : Pos} (ho : PE X o td) (hbase : attributeBase o "items" X.env (eval o X.env) = eval o X.env := by rfl) (hline : (apos.endLine == cpos.line) = true := by rfl) :
    PE X (.Call (.Attribute o "items" apos) [] [] cpos) (tNItems X.w td) := by
  refine ⟨fun pins s σ H Q I h => ?_⟩
  refine wpAny_Call_method0_late hbase hline (thn (ho.run pins s σ H _ I h) fun v s1 ⟨x, H1, I1, r1, a, kvs, ex, d, q1⟩ => ?_)
  subst ex
  obtain rfl : v = Value.ref a := r1
  obtain ⟨t1, t2, hd⟩ := n_there I1 d
  refine ⟨"dict", _, PySem.F.plainAttrs_dict, PySem.F.slot_dict_items, PySem.F.type_dict_items, t1, t2, Calls.callWith_builtin rfl (PySem.evalArgs_none ?_)⟩
  obtain ⟨z, _, xs, ys, e, kk, p, rel, o', es, ep, h1, h2, h3, _⟩ := dN_of I1.hok d
  refine DT.callItems (es := es) (ep := ep) hd ⟨o', h1, h2, h3⟩ ?_
  have hf : H1 s1.heap.objs.size = none := I1.hok.fresh (Nat.le_refl _)
  exact ⟨.ref s1.heap.objs.size, upd H1 s1.heap.objs.size (DX.itemsO s1.heap.objs.size a), I1.laid (t' := s1.toks) (fun b u e => Heap.get?_push_of_some _ e) (Nat.le_refl _) (DX.itemsO_ok (Heap.get?_push_size _ rfl)), rfl, q1 _ hf⟩
end

section
variable {X : Cx} {β : Type} {kf : β → NestedKey} {vf : β → Int}
/-- sorted(d.items()) -/
def rSortI (w : World) (kf : β → NestedKey) (vf : β → Int) : List V → Hp → VK → Prop := fun xs H Q => ∃ p a bs, xs = [.ref p] ∧ H p = some (DX.itemsO p a) ∧ DN w H a (bs.map fun b => (kf b, V.int (vf b))) ∧ KAlike kf bs ∧
  ∀ l ps' H', (∀ b o, H b = some o → H' b = some o) → H l = none → H' l = some (.lst (ps'.map V.ref)) → PairsH kf vf H' ps' (bs.mergeSort (dataLe false (encP kf vf))) → Q (.ref l) H'
theorem paired_of {α γ : Type} {F : α → γ → Prop} : ∀ {a : List α} {b : List γ}, a.length = b.length → (∀ (j : Nat) x y, a[j]? = some x → b[j]? = some y → F x y) → Paired F a b
  | [], [], _, _ => .nil
  | [], _ :: _, h, _ => by simp at h
  | _ :: _, [], h, _ => by simp at h
  | x :: xs, y :: ys, h, f => .cons (f 0 x y rfl rfl) (paired_of (by simpa using h) fun j x' y' h1 h2 => f (j + 1) x' y' (by simpa using h1) (by simpa using h2))
theorem cr_sortI (hcalm : X.calm = true) (hu : X.A.units + 64 < cLine) : CallR X (.builtin "sorted") (rSortI X.w kf vf) := by
  intro pins s σ H xs us Q I r h
  obtain ⟨p, a, bs, rfl, hp, hd, ka, q⟩ := h
  obtain rfl := Vals.ref1 r
  have view : s.heap.IsItemsView p a := (show ObjOk X.prog X.w H s.heap p (DX.itemsO p a) from I.hok p _ hp).1
  obtain ⟨z, hds, xs, ys, e, kk, pl, rel, o, es, ep, ho, hx, hdat, hes, his, hn⟩ := dN_of I.hok hd
  have l1 : bs.length = ys.length := by
    have e1 := Paired.length rel
    have e2 : xs.length = bs.length := by
      have := congrArg List.length pl
      unfold plainN at this
      rw [List.length_map, List.length_map] at this
      exact this
    omega
  rw [List.length_map] at z
  have l2 : es.size = ys.length := size_of_entries hes
  have hh : X.A.handled = none := I.ok.hd hcalm
  refine DT.sortedI (es := es) (ep := ep) hh view ⟨o, ho, hx, hdat⟩ (by rw [l2, ← l1]; exact z) fun h' tk as hk hlt hl hG => ?_
  have lak : as.length = bs.length := by omega
  have nd : as.Nodup := List.Pairwise.imp (fun h => Nat.ne_of_lt h) hG.rise
  -- the pairs that were made
  have pr : ∀ (j : Nat) (b : Addr) (e0 : β), as[j]? = some b → bs[j]? = some e0 → ∃ (kq : Addr) (t : Tok), NV H (.ref kq) (kf e0) ∧ h'.get? b = some { cls := .type "tuple", data := .seq #[Value.ref kq, Value.int (vf e0) t] } := by
    intro j b e0 hj hbj
    obtain ⟨en, he, hg⟩ := hG.pairs j b hj
    rw [entry_at hes j] at he
    cases hxj : ys[j]? with
    | none =>
      rw [hxj] at he
      exact nomatch (show (none : Option DictEntry) = some en from he)
    | some y =>
      rw [hxj] at he
      have een : entryOfKey (nestedKind X.prog X.w) y = en := Option.some.inj he
      obtain ⟨x0, hx0, r1, r2, r3⟩ := DX.pget rel hxj
      have hpl : (plainN xs)[j]? = some (kf e0, V.int (vf e0)) := by
        rw [pl, List.getElem?_map, hbj]; rfl
      unfold plainN at hpl
      rw [List.getElem?_map, hx0] at hpl
      have e3 : (x0.1, x0.2.2) = (kf e0, V.int (vf e0)) := Option.some.inj hpl
      have e4 : x0.1 = kf e0 := congrArg (·.1) e3
      have e5 : x0.2.2 = V.int (vf e0) := congrArg (·.2) e3
      rw [e5] at r3
      obtain ⟨t, et⟩ := (show ∃ t, y.2.2 = Value.int (vf e0) t from r3)
      refine ⟨y.2.1, t, ?_, ?_⟩
      · rw [← r2, ← e4]
        exact (kk x0 (List.mem_of_getElem? hx0)).1
      · rw [hg, ← een, ← et]
        all_goals rfl
  have I1 : Inv X pins σ H { s with heap := h', toks := tk } := I.kept (t' := tk) hk
  let Pr : Addr → β → Prop := fun a b => a ∈ as ∧ ∃ (kq : Addr) (t : Tok), NV H (.ref kq) (kf b) ∧ h'.get? a = some { cls := .type "tuple", data := .seq #[Value.ref kq, Value.int (vf b) t] }
  have pp : Paired Pr as bs := paired_of lak fun j x y h1 h2 => ⟨List.mem_of_getElem? h1, pr j x y h1 h2⟩
  have er : ∀ a b, a ∈ as → b ∈ bs → Pr a b → Reads h' (.ref a) (encP kf vf b) [] := by
    rintro a b _ _ ⟨_, kq, t, n, hg⟩
    exact .tuple hg rfl rfl (show ReadsAll h' [Value.ref kq, Value.int (vf b) t] [(kf b).data, .int (vf b)] [] from .cons (as := []) (bs := []) (n.reads I1.hok rfl) (.cons (as := []) (bs := []) (.int _ _) .nil))
  refine sort_step (X := X) (s := s) (A := X.A) (E := X.xe) (tk := tk) (Q := EP X pins σ Q) pp er ka.all sortable_enc (depth_enc ka) z hu fun ps' h3 pp' hk3 hl3 => ?_
  obtain ⟨e3, hl3⟩ := hl3
  have I3 : Inv X pins σ H { s with heap := h3, toks := tk } := I1.kept (t' := tk) hk3
  have hn0 : H h'.objs.size = none := I1.hok.fresh (Nat.le_refl _)
  have lz : (ps'.map V.ref).length ≤ sizeLine := by
    rw [List.length_map, len_paired pp', List.length_mergeSort]
    exact z
  have I4 : Inv X pins σ (upd H h'.objs.size (.lst (ps'.map V.ref))) { s with heap := h3, toks := tk } :=
    I3.take (h' := h3) (t' := tk) (fun b ob _ e => e) (I1.fpOk (Nat.le_refl _) hn0) ⟨lz, ps'.map Value.ref, e3, vals_maps _ _ _ fun _ _ => rfl, hl3⟩
  obtain ⟨H2, I5, g, qt⟩ := DX.takeT (P := fun a vs => ∃ (kq : Addr) (b : β), b ∈ bs ∧ Pr a b ∧ vs = [.ref kq, .int (vf b)] ∧ NV H (.ref kq) (kf b)) I as _ I4 nd fun a ha => by
    obtain ⟨j, hj⟩ := List.mem_iff_getElem?.mp ha
    have hjl : j < bs.length := by
      have := (List.getElem?_eq_some_iff.mp hj).1
      omega
    obtain ⟨kq, t, n, hg⟩ := pr j a bs[j] hj (List.getElem?_eq_getElem hjl)
    have hbl : s.heap.objs.size ≤ a := Nat.le_of_lt (hG.above a ha)
    have hne : a ≠ h'.objs.size := Nat.ne_of_lt (Heap.lt_size hg)
    refine ⟨hbl, by rw [upd_ne hne]; exact I.hok.fresh hbl, [.ref kq, .int (vf bs[j])], ⟨kq, bs[j], List.getElem_mem hjl, ⟨ha, kq, t, n, hg⟩, rfl, n⟩, fun H3 => ⟨(by rw [sizeLine_eq]; show 2 ≤ 16777216; omega), [Value.ref kq, Value.int (vf bs[j]) t], .cons rfl (.cons ⟨t, rfl⟩ .nil), ⟨_, hk3 _ _ hg, rfl, 0, rfl⟩⟩⟩
  have gr : ∀ b o, H b = some o → H2 b = some o := fun b o e => g b o (by rw [upd_ne (ne_of_none e hn0)]; exact e)
  have tkH : TK H H2 := fun b xs e => gr b _ e
  refine ⟨.ref h'.objs.size, H2, I5, rfl, q _ ps' H2 gr hn0 (g _ _ upd_same) (Paired.mapP pp' fun a b hab => ?_)⟩
  obtain ⟨ha, kq, t, n, hg⟩ := hab
  obtain ⟨vs, ⟨kq', b', hb', ⟨_, kq2, t2, n2, hg2⟩, ev, n'⟩, hH⟩ := qt a ha
  -- the tuple at a is one
  obtain ⟨_, its, rv, o1, h1, h2, m1, h4⟩ := (show ObjOk X.prog X.w H2 h3 a (.tup vs) from I5.hok a _ hH)
  rw [hk3 _ _ hg] at h1
  cases h1
  injection h4 with h5 _
  have ei : its = [Value.ref kq, Value.int (vf b) t] := by simpa using (congrArg Array.toList h5).symm
  rw [ev, ei] at rv
  cases rv with
  | cons ra rb =>
    cases rb with
    | cons rc _ =>
      obtain rfl : kq' = kq := by
        have : Value.ref kq = Value.ref kq' := ra
        cases this; rfl
      have ev2 : vf b' = vf b := by
        obtain ⟨t', e⟩ := (show ∃ t', Value.int (vf b) t = Value.int (vf b') t' from rc)
        injection e with e1 _
        exact e1.symm
      exact ⟨kq', by rw [hH, ev, ev2], n.mono tkH⟩
end
end Fi
/-! rules of our own: max and min of d.values(); tuple(..) frozen; dict(..) of pairs; o.f as a target; xs[i] read -/
namespace Fi
open PySem PySem.Spec PyProof.Rows L2 PySem.W

/-! ### d.values(), max, min -/
def valuesO (p d : Addr) : HO := .ext fun h => h.IsValuesView p d
theorem valuesO_ok {P : Program} {w : World} {H : Hp} {h : Heap} {p d : Addr} (e : h.get? p = some { cls := .type "dict_values", data := .fields #[.ref d] }) : ObjOk P w H h p (valuesO p d) :=
  ⟨⟨_, e, rfl, rfl⟩, ⟨_, e⟩, fun h1 h2 x k => let ⟨o, ho, r⟩ := x; ⟨o, k o ho, r⟩⟩
def tVals (td : TE) : TE := fun σ H Q => td σ H fun x H1 => ∃ a kvs, x = .ref a ∧ H1 a = some (.dK kvs) ∧ ∀ p, H1 p = none → Q (.ref p) (upd H1 p (valuesO p a))
section
variable {X : Cx}
theorem pe_values {o : Expr} {td : TE} {apos cpos : Pos} (ho : PE X o td) (hbase : attributeBase o "values" X.env (eval o X.env) = eval o X.env := by rfl) (hline : (apos.endLine == cpos.line) = true := by rfl) :
    PE X (.Call (.Attribute o "values" apos) [] [] cpos) (tVals td) := by
  refine ⟨fun pins s σ H Q I h => ?_⟩
  refine wpAny_Call_method0_late hbase hline (thn (ho.run pins s σ H _ I h) fun v s1 ⟨x, H1, I1, r1, a, kvs, ex, d, q1⟩ => ?_)
  subst ex
  obtain rfl : v = Value.ref a := r1
  obtain ⟨z, hd, vs, rel, dd⟩ := dk_of I1.hok d
  obtain ⟨ob, _, _, h1, h2, _⟩ := id dd
  refine ⟨"dict", _, PySem.F.plainAttrs_dict, PySem.F.slot_dict_values, PySem.F.type_dict_values, dd.typeIs, fun b q => by cases q; exact ⟨ob, h1, h2.2.1⟩, Calls.callWith_builtin rfl (PySem.evalArgs_none ?_)⟩
  have hf : H1 s1.heap.objs.size = none := I1.hok.fresh (Nat.le_refl _)
  refine call_meetsIn PySem.F.slot_dict_values dd.typeIs PySem.F.entry_dict_values (PySem.F.args_dict_values_1 _) (meets_dict_values (mixKind X.prog X.w) a hd) ⟨⟨vs, dd⟩, ?_⟩
  exact ⟨.ref s1.heap.objs.size, upd H1 s1.heap.objs.size (valuesO s1.heap.objs.size a), I1.laid (t' := s1.toks) (fun b u e => Heap.get?_push_of_some _ e) (Nat.le_refl _) (valuesO_ok (Heap.get?_push_size _ rfl)), rfl, q1 _ hf⟩
def rMaxV (mx : Bool) : List V → Hp → VK → Prop := fun xs H Q => ∃ p d kvs ns, xs = [.ref p] ∧ H p = some (valuesO p d) ∧ H d = some (.dK kvs) ∧ kvs.map (·.2) = ns.map V.int ∧ ns ≠ [] ∧ Q (.int (if mx = true then lmax ns else lmin ns)) H
theorem kv_at {κ : Type} [DecidableEq κ] {kvs : List (κ × V)} {vs : List (κ × Value)} {ns : List Int} (r : KV kvs vs) (e : kvs.map (·.2) = ns.map V.int) : ns.length = vs.length ∧ ∀ (j : Nat) (q : κ × Value), vs[j]? = some q → ∃ i t, ns[j]? = some i ∧ q.2 = Value.int i t := by
  have hl : ns.length = kvs.length := by
    have := congrArg List.length e
    simpa using this.symm
  refine ⟨hl.trans r.length, fun j q hq => ?_⟩
  have hj := (List.getElem?_eq_some_iff.mp hq).1
  have hk : j < kvs.length := by rw [r.length]; exact hj
  obtain ⟨u, hu, ru⟩ := kv_get r (show kvs[j]? = some (kvs[j].1, kvs[j].2) from List.getElem?_eq_getElem hk)
  rw [hq] at hu
  have hu' : q = (kvs[j].1, u) := Option.some.inj hu
  have e2 : (kvs.map (·.2))[j]? = (ns.map V.int)[j]? := by rw [e]
  rw [List.getElem?_map, List.getElem?_map, List.getElem?_eq_getElem hk, List.getElem?_eq_getElem (show j < ns.length by omega)] at e2
  have e3 : kvs[j].2 = V.int ns[j] := Option.some.inj e2
  rw [e3] at ru
  obtain ⟨t, et⟩ := (show ∃ t, u = Value.int ns[j] t from ru)
  exact ⟨ns[j], t, List.getElem?_eq_getElem (by omega), by rw [hu', et]⟩
theorem lmax_fold (x : Int) (xs : List Int) : lmax (x :: xs) = (xs.take xs.length).foldl (fun a y => if decide (a < y) = true then y else a) x := by
  rw [List.take_length]
  show xs.foldl (fun a b => if a < b then b else a) x = _
  congr 1
  funext a y
  simp
theorem lmin_fold (x : Int) (xs : List Int) : lmin (x :: xs) = (xs.take xs.length).foldl (fun a y => if decide (y < a) = true then y else a) x := by
  rw [List.take_length]
  show xs.foldl (fun a b => if b < a then b else a) x = _
  congr 1
  funext a y
  simp
theorem vals_view {pins : List (Addr × Obj)} {σ : L2.St} {H : Hp} {s : Shared} {p d : Addr} {kvs : List (Key × V)} {ns : List Int} (I : Inv X pins σ H s) (hp : H p = some (valuesO p d)) (hd : H d = some (.dK kvs)) (e : kvs.map (·.2) = ns.map V.int) :
    s.heap.IsValuesView p d ∧ ∃ es ep, s.heap.DictRaw d es ep ∧ es.size = ns.length ∧ ∀ i (hi : i < es.size), ∃ z t, ns[i]? = some z ∧ es[i].val = Value.int z t := by
  refine ⟨(show ObjOk X.prog X.w H s.heap p (valuesO p d) from I.hok p _ hp).1, ?_⟩
  obtain ⟨z, hds, vs, rel, dd⟩ := dk_of I.hok hd
  obtain ⟨es, ep, hr, hs, he⟩ := dd.raw
  obtain ⟨hl, hv⟩ := kv_at rel e
  refine ⟨es, ep, hr, by omega, fun i hi => ?_⟩
  have hi2 : i < vs.length := by omega
  obtain ⟨_, h3⟩ := he i hi vs[i].1 vs[i].2 (List.getElem?_eq_getElem hi2)
  obtain ⟨z, t, h4, h5⟩ := hv i vs[i] (List.getElem?_eq_getElem hi2)
  exact ⟨z, t, h4, by rw [h3]; exact h5⟩
theorem cr_maxV (hc : X.calm = true) : CallR X (.builtin "max") (rMaxV true) := by
  intro pins s σ H xs us Q I r h
  obtain ⟨p, d, kvs, ns, rfl, hp, hd, e, hne, q⟩ := h
  obtain rfl := Vals.ref1 r
  obtain ⟨view, es, ep, raw, hsz, hv⟩ := vals_view I hp hd e
  have hh : X.A.handled = none := I.ok.hd hc
  have hdl : d < s.heap.objs.size := let ⟨o, ho, _⟩ := raw; Heap.lt_size ho
  obtain ⟨y, ys, rfl⟩ : ∃ y ys, ns = y :: ys := by
    cases ns with
    | nil => exact absurd rfl hne
    | cons y ys => exact ⟨y, ys, rfl⟩
  refine call_max_walkH (wpAny_pyIter_values_raw view raw ?_)
  refine ⟨s.heap.objs.size, [s.heap.objs.size, d], [s.heap.objs.size], _, es.size, _, _, s.heap, (fun i j => decide ((y :: ys).getD j 0 < (y :: ys).getD i 0)), rfl,
    (Walks.rawValues (prog := X.prog) (w := X.w) (A := X.A.in1) hh s.heap.objs.size d (Nat.ne_of_lt hdl) es ep).toS, ⟨⟨_, Heap.get?_push_size _ rfl, rfl, rfl⟩, raw.at fun o e => Heap.get?_push_of_some _ e⟩, fun b hb => ?_, by rw [hsz]; exact Nat.succ_pos _, fun b o e hb => ?_, fun b o e => Heap.get?_push_of_some _ e, ?_, ?_⟩
  · show b < (s.heap.push _).objs.size
    rw [Heap.size_push]
    rcases List.mem_cons.mp hb with rfl | hb
    · exact Nat.lt_succ_self _
    · rcases List.mem_cons.mp hb with rfl | hb
      · exact Nat.lt_succ_of_lt hdl
      · cases hb
  · exact absurd (Heap.lt_size e) ((List.mem_singleton.mp hb) ▸ Nat.lt_irrefl _)
  · rintro i j vi vj s' Q' E' _ ⟨hi, rfl⟩ ⟨hj, rfl⟩ hq
    obtain ⟨z1, t1, a1, b1⟩ := hv i hi
    obtain ⟨z2, t2, a2, b2⟩ := hv j hj
    rw [b1, b2]
    have hq0 : Q' (.bool (decide ((y :: ys).getD j 0 < (y :: ys).getD i 0))) s' := hq
    have hq' : Q' (.bool (decide (z2 < z1))) s' := by
      rw [List.getD_eq_getElem?_getD, List.getD_eq_getElem?_getD, a1, a2] at hq0
      exact hq0
    exact (PyProof.Rows.gt_int hq' : wpAny (model X.prog X.w) X.A.in1 (compareOp .Gt (.int z1 t1) (.int z2 t2)) Q' E' s')
  · rintro v s' ⟨hi, rfl⟩ m
    obtain ⟨h', tk, rfl, hk'⟩ := moved_old rfl rfl m
    obtain ⟨z1, t1, a1, b1⟩ := hv _ hi
    have e1 : es.size - 1 = ys.length := by rw [hsz]; rfl
    have e2 := (argBest_fold (fun a b => decide (b < a)) (0 : Int) y ys ys.length (Nat.le_refl _)).2
    rw [e1] at a1
    have e3 : z1 = lmax (y :: ys) := by
      rw [List.getD_eq_getElem?_getD, a1] at e2
      rw [lmax_fold]
      exact e2
    exact ⟨.int (lmax (y :: ys)), H, I.kept (t' := tk) hk', ⟨t1, by rw [b1, e3]⟩, q⟩
theorem cr_minV (hc : X.calm = true) : CallR X (.builtin "min") (rMaxV false) := by
  intro pins s σ H xs us Q I r h
  obtain ⟨p, d, kvs, ns, rfl, hp, hd, e, hne, q⟩ := h
  obtain rfl := Vals.ref1 r
  obtain ⟨view, es, ep, raw, hsz, hv⟩ := vals_view I hp hd e
  have hh : X.A.handled = none := I.ok.hd hc
  have hdl : d < s.heap.objs.size := let ⟨o, ho, _⟩ := raw; Heap.lt_size ho
  obtain ⟨y, ys, rfl⟩ : ∃ y ys, ns = y :: ys := by
    cases ns with
    | nil => exact absurd rfl hne
    | cons y ys => exact ⟨y, ys, rfl⟩
  refine call_min_walkH (wpAny_pyIter_values_raw view raw ?_)
  refine ⟨s.heap.objs.size, [s.heap.objs.size, d], [s.heap.objs.size], _, es.size, _, _, s.heap, (fun i j => decide ((y :: ys).getD i 0 < (y :: ys).getD j 0)), rfl,
    (Walks.rawValues (prog := X.prog) (w := X.w) (A := X.A.in1) hh s.heap.objs.size d (Nat.ne_of_lt hdl) es ep).toS, ⟨⟨_, Heap.get?_push_size _ rfl, rfl, rfl⟩, raw.at fun o e => Heap.get?_push_of_some _ e⟩, fun b hb => ?_, by rw [hsz]; exact Nat.succ_pos _, fun b o e hb => ?_, fun b o e => Heap.get?_push_of_some _ e, ?_, ?_⟩
  · show b < (s.heap.push _).objs.size
    rw [Heap.size_push]
    rcases List.mem_cons.mp hb with rfl | hb
    · exact Nat.lt_succ_self _
    · rcases List.mem_cons.mp hb with rfl | hb
      · exact Nat.lt_succ_of_lt hdl
      · cases hb
  · exact absurd (Heap.lt_size e) ((List.mem_singleton.mp hb) ▸ Nat.lt_irrefl _)
  · rintro i j vi vj s' Q' E' _ ⟨hi, rfl⟩ ⟨hj, rfl⟩ hq
    obtain ⟨z1, t1, a1, b1⟩ := hv i hi
    obtain ⟨z2, t2, a2, b2⟩ := hv j hj
    rw [b1, b2]
    have hq0 : Q' (.bool (decide ((y :: ys).getD i 0 < (y :: ys).getD j 0))) s' := hq
    have hq' : Q' (.bool (decide (z1 < z2))) s' := by
      rw [List.getD_eq_getElem?_getD, List.getD_eq_getElem?_getD, a1, a2] at hq0
      exact hq0
    exact (PyProof.Rows.lt_int hq' : wpAny (model X.prog X.w) X.A.in1 (compareOp .Lt (.int z1 t1) (.int z2 t2)) Q' E' s')
  · rintro v s' ⟨hi, rfl⟩ m
    obtain ⟨h', tk, rfl, hk'⟩ := moved_old rfl rfl m
    obtain ⟨z1, t1, a1, b1⟩ := hv _ hi
    have e1 : es.size - 1 = ys.length := by rw [hsz]; rfl
    have e2 := (argBest_fold (fun a b => decide (a < b)) (0 : Int) y ys ys.length (Nat.le_refl _)).2
    rw [e1] at a1
    have e3 : z1 = lmin (y :: ys) := by
      rw [List.getD_eq_getElem?_getD, a1] at e2
      rw [lmin_fold]
      exact e2
    exact ⟨.int (lmin (y :: ys)), H, I.kept (t' := tk) hk', ⟨t1, by rw [b1, e3]⟩, q⟩
end

/-! ### tuple(list), told as a plain object; dict(..) of it -/
def vI : Value → V
  | .int i _ => .int i
  | _ => .non
def PlainT (ob : Obj) : Prop := ob.cls = .type "tuple" ∧ ob.dict = none
section
variable {X : Cx}
def rTupF (K : PySem.W.Frag) : List V → Hp → VK → Prop := fun xs H Q => ∃ l ys, xs = [.ref l] ∧ SqL K H l ys ∧ ∀ p ob, H p = none → PlainT ob → Q (.ref p) (upd H p (.frz ob (.tup ys)))
theorem call_tupF : CallR X (.type "tuple") (rTupF X.K) := by
  intro pins s σ H xs us Q I r h
  obtain ⟨p, ys, rfl, hq, q⟩ := h
  obtain ⟨u, rfl, rx⟩ := vals1 r
  cases rx
  obtain ⟨its, r', pl, hz⟩ := I.list hq
  have hlen := r'.length
  refine call_tuple_list pl.isList (fun h' kp => ?_) (by simp only [List.size_toArray] <;> omega)
  have I1 : Inv X pins σ H { s with heap := h' } := I.kept (t' := s.toks) kp
  have I2 : Inv X pins σ (upd H h'.objs.size (.frz { cls := .type "tuple", data := .seq its.toArray } (.tup ys))) { s with heap := h'.push { cls := .type "tuple", data := .seq its.toArray } } :=
    I1.laid (t' := s.toks) (fun b o e => Heap.get?_push_of_some _ e) (Nat.le_refl _) (show ObjOk X.prog X.w _ _ _ (.frz _ (.tup ys)) from ⟨Heap.get?_push_size _ rfl, hz, its, r', IsTup.new _ _⟩)
  exact ⟨.ref h'.objs.size, _, I2, rfl, q _ _ (I1.hok.fresh (Nat.le_refl _)) ⟨rfl, rfl⟩⟩
/-- dict(ps), ps a plain tuple of pairs whose keys differ -/
def rDictP (w : World) {β : Type} (kf : β → NestedKey) (vf : β → Int) : List V → Hp → VK → Prop := fun xs H Q => ∃ t ob ps bs, xs = [.ref t] ∧ H t = some (.frz ob (.tup (ps.map V.ref))) ∧ PlainT ob ∧ PairsH kf vf H ps bs ∧ (∀ b ∈ bs, (kf b).depth ≤ 8) ∧ (bs.map kf).Nodup ∧
  ∀ p o, H p = none → DN w (upd H p o) p (bs.map fun b => (kf b, V.int (vf b))) → Q (.ref p) (upd H p o)
theorem pairs_raw {pins : List (Addr × Obj)} {σ : L2.St} {H : Hp} {s : Shared} {β : Type} {kf : β → NestedKey} {vf : β → Int} (I : Inv X pins σ H s) : ∀ {ps : List Addr} {bs : List β}, PairsH kf vf H ps bs →
    ∃ ys : List (NestedKey × Addr × Value), ys.length = ps.length ∧ (∀ (j : Nat) y, ys[j]? = some y → ∃ a b, ps[j]? = some a ∧ bs[j]? = some b ∧ y.1 = kf b ∧ NV H (.ref y.2.1) (kf b) ∧ (∃ t, y.2.2 = Value.int (vf b) t) ∧ IsTup s.heap a #[.ref y.2.1, y.2.2])
  | _, _, .nil => ⟨[], rfl, fun j y e => by simp at e⟩
  | a :: ps, b :: bs, .cons h t => by
    obtain ⟨ys, hl, hy⟩ := pairs_raw I t
    obtain ⟨ka, e, n⟩ := h
    obtain ⟨_, its, rv, o, h1, h2, m, h3⟩ := (show ObjOk X.prog X.w H s.heap a (.tup [.ref ka, .int (vf b)]) from I.hok a _ e)
    obtain ⟨u, w', e1, r1, r2⟩ := vals2 rv
    subst e1
    obtain rfl : u = Value.ref ka := r1
    obtain ⟨tt, rfl⟩ := r2
    refine ⟨(kf b, ka, Value.int (vf b) tt) :: ys, by rw [List.length_cons, List.length_cons, hl], fun j y ey => ?_⟩
    cases j with
    | zero =>
      have ey' : (kf b, ka, Value.int (vf b) tt) = y := Option.some.inj ey
      subst ey'
      exact ⟨a, b, rfl, rfl, rfl, n, ⟨tt, rfl⟩, o, h1, h2, m, h3⟩
    | succ j =>
      obtain ⟨a', b', q1, q2, q3⟩ := hy j y (by simpa using ey)
      exact ⟨a', b', by simpa using q1, by simpa using q2, q3⟩
theorem call_dictPN (hcalm : X.calm = true) (hu : X.A.units + 64 < cLine) {β : Type} {kf : β → NestedKey} {vf : β → Int} : CallR X (.type "dict") (rDictP X.w kf vf) := by
  intro pins s σ H xs us Q I r h
  obtain ⟨t, ob, ps, bs, rfl, ht, ⟨pc, pd⟩, pp, dp, nd, q⟩ := h
  obtain rfl := Vals.ref1 r
  obtain ⟨hg, z, its, rv, o, h1, h2, n, h3⟩ := (show ObjOk X.prog X.w H s.heap t (.frz ob (.tup (ps.map V.ref))) from I.hok t _ ht)
  rw [hg] at h1
  cases h1
  have ei := refs_at rv
  subst ei
  obtain ⟨ys, hl, hy⟩ := pairs_raw I pp
  have lb : bs.length = ps.length := (len_paired pp).symm
  rw [List.length_map] at z
  have keys : ys.map (·.1) = bs.map kf := by
    refine List.ext_getElem? fun j => ?_
    rw [List.getElem?_map, List.getElem?_map]
    by_cases hj : j < ys.length
    · obtain ⟨a, b, q1, q2, q3, _⟩ := hy j ys[j] (List.getElem?_eq_getElem hj)
      rw [List.getElem?_eq_getElem hj, q2]
      show some ys[j].1 = some (kf b)
      rw [q3]
    · rw [List.getElem?_eq_none (by omega), List.getElem?_eq_none (by omega)]
      rfl
  have P := PairArg.tuple (prog := X.prog) (w := X.w) t (ps.map Value.ref).toArray (fun j => ps.getD j 0) (ys.map fun y => (Value.ref y.2.1, y.2.2))
  have hh : X.A.handled = none := I.ok.hd hcalm
  have okk : PlainSeq "tuple" s.heap t (ps.map Value.ref).toArray ∧ PairItems s.heap (ps.map Value.ref).toArray (fun j => ps.getD j 0) (ys.map fun y => (Value.ref y.2.1, y.2.2)) := by
    refine ⟨⟨ob, n, hg, h2, pd, h3⟩, by simp [hl], fun j k v hj => ?_⟩
    rw [List.getElem?_map] at hj
    obtain ⟨y, hy1, hy2⟩ := Option.map_eq_some_iff.mp hj
    obtain ⟨a, b, q1, q2, q3, q4, q5, q6⟩ := hy j y hy1
    cases hy2
    have ea : ps.getD j 0 = a := by rw [List.getD_eq_getElem?_getD, q1]; rfl
    show (ps.map Value.ref).toArray[j]? = some (Value.ref (ps.getD j 0)) ∧ PairAt s.heap (ps.getD j 0) _ _
    rw [ea]
    exact ⟨by simp [q1], .inl q6⟩
  refine call_dict_pairsH (knd := nestedKind X.prog X.w) (ps := ys) P hh (by show X.A.units + 1 + 1 + 8 < cLine; omega) okk ⟨by simp, fun i key v hrel => ?_⟩ (fun h' hk x hx => ?_) (by rw [List.length_map]; omega) fun h' tk dd' hk => ?_
  · have hrel' : (ys.map fun y => (Value.ref y.2.1, y.2.2))[i]? = some (key, v) := hrel
    rw [List.getElem?_map] at hrel'
    obtain ⟨y, hy1, hy2⟩ := Option.map_eq_some_iff.mp hrel'
    cases hy2
    exact ⟨y.1, y.2.1, hy1, rfl⟩
  · obtain ⟨j, hj⟩ := List.mem_iff_getElem?.mp hx
    obtain ⟨a, b, q1, q2, q3, q4, _⟩ := hy j x hj
    have kk : ∀ c oc, s.heap.get? c = some oc → h'.get? c = some oc := fun c oc e => hk c oc (Nat.ne_of_lt (Heap.lt_size e)) (by simp) e
    have nis : NestedIs s.heap (kf b) (.ref x.2.1) := q4.is I.hok rfl
    refine ⟨?_, ?_⟩
    · rw [q3]
      exact NestedIs.at (fun c oc vs m e _ => kk c oc e) _ _ nis
    · rw [q3]
      exact dp b (List.mem_of_getElem? q2)
  · have ndy : (ys.map (·.1)).Nodup := by rw [keys]; exact nd
    rw [storedAllH_nil_of_nodup ys ndy] at dd'
    obtain ⟨q0, es, ep, g1, g2, g3, g4, _, g5⟩ := dd'
    have kk : ∀ c oc, s.heap.get? c = some oc → h'.get? c = some oc := fun c oc e => hk c oc (by simp) e
    have hf : H s.heap.objs.size = none := I.hok.fresh (Nat.le_refl _)
    let xs0 : List NE := ys.map fun y => (y.1, y.2.1, vI y.2.2)
    have vint : ∀ y ∈ ys, ∃ b t, b ∈ bs ∧ y.1 = kf b ∧ NV H (.ref y.2.1) (kf b) ∧ y.2.2 = Value.int (vf b) t := fun y hy0 => by
      obtain ⟨j, hj⟩ := List.mem_iff_getElem?.mp hy0
      obtain ⟨a, b, q1, q2, q3, q4, ⟨t, q5⟩, _⟩ := hy j y hj
      exact ⟨b, t, List.mem_of_getElem? q2, q3, q4, q5⟩
    have rel : Paired RelN xs0 ys := by
      refine paired_of (by simp [xs0]) fun j x y e1 e2 => ?_
      have e1' : (ys.map fun y => ((y.1, y.2.1, vI y.2.2) : NE))[j]? = some x := e1
      rw [List.getElem?_map, e2] at e1'
      have e3 := Option.some.inj e1'
      obtain ⟨b, t, _, _, _, e5⟩ := vint y (List.mem_of_getElem? e2)
      rw [← e3]
      refine ⟨rfl, rfl, ?_⟩
      show L2.RelV (vI y.2.2) y.2.2
      rw [e5]
      exact ⟨t, rfl⟩
    have tkk : TK H (upd H s.heap.objs.size (dN X.w s.heap.objs.size xs0)) := fun c zs e => by rw [upd_ne (ne_of_none e hf)]; exact e
    have kok : KOk (upd H s.heap.objs.size (dN X.w s.heap.objs.size xs0)) xs0 := by
      intro x hx
      obtain ⟨y, hy0, ey⟩ := List.mem_map.mp hx
      obtain ⟨b, t, hb, e1, e2, e3⟩ := vint y hy0
      rw [← ey]
      exact ⟨by show NV _ (.ref y.2.1) y.1; rw [e1]; exact e2.mono tkk, by show y.1.depth ≤ 8; rw [e1]; exact dp b hb⟩
    have pl : plainN xs0 = bs.map fun b => (kf b, V.int (vf b)) := by
      refine List.ext_getElem? fun j => ?_
      show ((ys.map fun y => ((y.1, y.2.1, vI y.2.2) : NE)).map fun x => (x.1, x.2.2))[j]? = _
      rw [List.map_map, List.getElem?_map, List.getElem?_map]
      by_cases hj : j < ys.length
      · obtain ⟨a, b, q1, q2, q3, q4, ⟨t, q5⟩, _⟩ := hy j ys[j] (List.getElem?_eq_getElem hj)
        rw [List.getElem?_eq_getElem hj, q2]
        show some (ys[j].1, vI ys[j].2.2) = some (kf b, V.int (vf b))
        rw [q3, q5]
        rfl
      · rw [List.getElem?_eq_none (by omega), List.getElem?_eq_none (by omega)]
        rfl
    refine ⟨.ref s.heap.objs.size, _, I.laid (a := s.heap.objs.size) (o := dN X.w s.heap.objs.size xs0) (t' := tk) kk (Nat.le_refl _) ?_, rfl, q _ _ hf ⟨xs0, upd_same, kok, pl⟩⟩
    refine phN_ok ⟨by simp [xs0]; omega, beq_eq_false_iff_ne.mpr (Nat.ne_of_gt I.big), ys, rel, q0, es, ep, g1, g2, g3, g4, by rw [relN_keys rel]; exact ndy⟩
end

/-! ### o.f as a target; a list's item, read -/
section
variable {X : Cx}
def gFld (K : PySem.W.Frag) (to : TE) (f : Str) : TG := fun v σ H Q => to σ H fun x H1 => ∃ a C dx fs, x = .ref a ∧ H1 a = some (.ins C dx fs) ∧ Cls K C ∧ NoAttr K C f ∧ fs.length < 1000 ∧ Q σ (upd H1 a (.ins C dx (putF f v fs)))
theorem pg_fld {o : Expr} {f : Str} {pos : PySem.Pos} {to : TE} (ho : PE X o to) : PG X (.Attribute o f pos) (gFld X.K to f) := by
  refine ⟨fun pins s σ H v u Q I r h => ?_⟩
  rw [arm_assign_Attribute]
  refine wpAny_bind (wpAny_holding (thn (ho.run pins s σ H _ I h) fun ov s1 ⟨x, H1, I1, r1, a, C, dx, fs, ex, ea, c, n, l, q1⟩ => ?_))
  subst ex
  obtain rfl : ov = Value.ref a := r1
  refine wpAny_bind (wpAny_standAt (wpAny_bind (wpAny_holding (setattr_ok I1 ea c n l r fun s2 I2 => ?_))))
  exact wpAny_release ⟨σ, _, I2, q1⟩
theorem get_list : PGet X (rIxL X.K) := by
  intro pins s σ H o i ov iv Q I r1 r2 h
  obtain ⟨p, xs, k, z, rfl, rfl, hq, he, q⟩ := h
  cases r1
  obtain ⟨t, rfl⟩ := r2
  obtain ⟨its, r, pl, hz⟩ := I.list hq
  obtain ⟨j, h1, h2, h3, h4, h5⟩ := atI_get he
  obtain ⟨w, ew, rw'⟩ := r.get h2
  have hl := r.length
  have hn := line63
  have fin : EP X pins σ Q w s := ⟨z, H, I, rw', q⟩
  by_cases h0 : 0 ≤ k
  · have hj : k.toNat = j := by
      rw [seqIndex_of h0 h5] at h1
      exact Option.some.inj h1
    exact wpAny_getItem_list pl.isList h0 (by omega) (by rw [hj]; simpa using ew) fin
  · have hj : (k + (its.toArray.size : Int)).toNat = j := by
      rw [seqIndex_neg (by omega) h4] at h1
      rw [List.size_toArray, ← hl]
      exact Option.some.inj h1
    exact wpAny_getItem_list_neg pl.isList (by omega) (by rw [List.size_toArray] <;> omega) (by omega) (by rw [hj]; simpa using ew) fin
end
end Fi
/-! the text by places; a def's, a method's, a class's word in one; what stays of a heap -/
namespace Fi
open PySem PySem.Spec PyProof.Rows L2

def top (i : Nat) : Stmt := PySem.Challenge.pw_finesse_k34_whole_papers_show_the_share.main.body.getD i (.Pass ⟨0, 0, 0, 0⟩)

/-! ### words -/
/-- a def of the module, a method of a class, as the top has made them -/
def EntF (K : PySem.W.Frag) (mg : Str → Option Value) (x : Str) (st : Stmt) : Prop := ∃ f fd, Fun K x x st f fd ∧ mg x = some (.ref f)
def EntM (K : PySem.W.Frag) (C : Addr) (m qual : Str) (st : Stmt) : Prop := ∃ f fd, Fun K m qual st f fd ∧ Meth K C m f
def EntC (K : PySem.W.Frag) (mg : Str → Option Value) (C : Addr) (x qual : Str) (st : Stmt) : Prop := ∃ f fd, Fun K "__init__" qual st f fd ∧ Mk K C f ∧ mg x = some (.ref C)
/-- a def that keeps its promise -/
def Df (P : Program) (w : World) (K : PySem.W.Frag) (mg : Str → Option Value) (base : Heap) (k : Nat) (x : Str) (ps : List Str) (sp : Sp) : Prop :=
  ∃ f fd, FnOk P w K mg base CX0 k f fd ps sp ∧ mg x = some (.ref f) ∧ PySem.W.keepIn K (.ref f) = true ∧ Binds K fd ps []
def Mt (P : Program) (w : World) (K : PySem.W.Frag) (mg : Str → Option Value) (base : Heap) (C : Addr) (k : Nat) (m : Str) (ps : List Str) (sp : Sp) : Prop :=
  ∃ f fd, FnOk P w K mg base CX0 k f fd ps sp ∧ Meth K C m f ∧ Binds K fd ps []
def Mc (P : Program) (w : World) (K : PySem.W.Frag) (mg : Str → Option Value) (base : Heap) (C : Addr) (k : Nat) (x : Str) (ps : List Str) (sp : Sp) : Prop :=
  ∃ f fd, Mk K C f ∧ FnOk P w K mg base CX0 k f fd ps sp ∧ mg x = some (.ref C) ∧ Binds K fd ps []
section
variable {P : Program} {w : World} {K : PySem.W.Frag} {mg : Str → Option Value} {base : Heap} {k : Nat} {x m qual : Str} {ps N : List Str} {sp : Sp} {st : Stmt} {C : Addr}
abbrev BodyOk (P : Program) (w : World) (K : PySem.W.Frag) (mg : Str → Option Value) (base : Heap) (k : Nat) (N : List Str) (qual : Str) (st : Stmt) (sp : Sp) : Prop :=
  ∀ (f : Addr) (cdv : Value) (A : Around) (outer : List Env) (s : Shared) (H : Hp) (vs : List V) (Q : VK) (E : XK), Room k (A.deeper (envOfC qual (defScope st) s.heap.objs.size f cdv)) → sp vs H Q E →
      ∃ t, PSs (cxOf CX0 P w K mg base N qual (defScope st) f cdv A outer s H E).nox (defBody st) t ∧ t { nx := fun _ H' => Q .non H', rt := Q } (start N vs) H
abbrev BindOk (ps : List Str) (x qual : Str) (st : Stmt) : Prop := ∀ (kV doc pm : Value) (an : Option Addr) (cdv ct : Value) (us : List Value), us.length = ps.length → bindArgs (PySem.W.fnOf x qual (defArgs st) (defBody st) (defScope st) .none kV doc pm an cdv ct) ⟨us, []⟩ = pure (ps.zip us)
theorem df_mk (E : EntF K mg x st) (S : FnScope N ps (defScope st)) (hb : BindOk ps x x st) (len : ∀ vs H Q E, sp vs H Q E → vs.length = ps.length) (hbody : BodyOk P w K mg base k N x st sp) : Df P w K mg base (k + 1) x ps sp := by
  obtain ⟨f, fd, F, hm⟩ := E
  exact ⟨f, fd, F.ok S len (hbody f), hm, F.kp, F.binds hb⟩
theorem mt_mk (E : EntM K C m qual st) (S : FnScope N ps (defScope st)) (hb : BindOk ps m qual st) (len : ∀ vs H Q E, sp vs H Q E → vs.length = ps.length) (hbody : BodyOk P w K mg base k N qual st sp) : Mt P w K mg base C (k + 1) m ps sp := by
  obtain ⟨f, fd, F, hm⟩ := E
  exact ⟨f, fd, F.ok S len (hbody f), hm, F.binds hb⟩
theorem mc_mk (E : EntC K mg C x qual st) (S : FnScope N ps (defScope st)) (hb : BindOk ps "__init__" qual st) (len : ∀ vs H Q E, sp vs H Q E → vs.length = ps.length) (hbody : BodyOk P w K mg base k N qual st sp) : Mc P w K mg base C (k + 1) x ps sp := by
  obtain ⟨f, fd, F, hk, hm⟩ := E
  exact ⟨f, fd, hk, F.ok S len (hbody f), hm, F.binds hb⟩
theorem Df.mono {j : Nat} (D : Df P w K mg base j x ps sp) (h : j ≤ k) : Df P w K mg base k x ps sp := let ⟨f, fd, G, r⟩ := D; ⟨f, fd, G.mono h, r⟩
theorem Mt.mono {j : Nat} (D : Mt P w K mg base C j m ps sp) (h : j ≤ k) : Mt P w K mg base C k m ps sp := let ⟨f, fd, G, r⟩ := D; ⟨f, fd, G.mono h, r⟩
theorem Mc.mono {j : Nat} (D : Mc P w K mg base C j x ps sp) (h : j ≤ k) : Mc P w K mg base C k x ps sp := let ⟨f, fd, M, G, r⟩ := D; ⟨f, fd, M, G.mono h, r⟩
end
section
variable {X : Cx} {k : Nat} {x m : Str} {ps : List Str} {sp : Sp} {C : Addr} {p pos apos : PySem.Pos} {e o : Expr} {es : List Expr} {ta : TE} {t : TA}
theorem pe_cd (D : Df X.prog X.w X.K X.mg X.base k x ps sp) (hr : Room k X.A) (hg : Gl X x) (ha : PA X (e :: es) t) (hdb : (x == ("__debug__" : Str)) = false := by decide)
    (he : starEach (e :: es) X.env = (false, eval e X.env) :: starEach es X.env := by rfl) (hpl : (backTo pos (starEach es X.env)).any (·.1) = false := by rfl) : PE X (.Call (.Name x p) (e :: es) [] pos) (tCall sp [] E0 t) := by
  obtain ⟨f, fd, G, hm, hk, hb⟩ := D
  exact pe_call G hr hg hm hk hb .nil pass0 ha hdb he hpl
theorem pe_md {pl : Sem Bool} (he : PE X o ta) (c : Cls X.K C) (D : Mt X.prog X.w X.K X.mg X.base C k m ps sp) (hr : Room k X.A) (ha : PA X (e :: es) t)
    (hst : starEach (e :: es) X.env = (false, eval e X.env) :: starEach es X.env := by rfl) (hpl : (backTo pos (starEach es X.env)).any (·.1) = false := by rfl)
    (ht : eval (.Call (.Attribute o m apos) (e :: es) [] pos) X.env = (do
      let ov ← eval o X.env
      standAt apos.atName
      let (f, first) ← holding [ov] (getMethod ov m pl)
      callWith pos f first (backTo pos (starEach (e :: es) X.env)) (backToKw pos (keywordEach [] X.env))) := by rfl) : PE X (.Call (.Attribute o m apos) (e :: es) [] pos) (tMeth C m sp [] E0 ta t) := by
  obtain ⟨f, fd, G, hm, hb⟩ := D
  exact pe_meth he c hm G hr hb .nil pass0 ha hst hpl ht
theorem pe_md0 {pl : Sem Bool} (he : PE X o ta) (c : Cls X.K C) (D : Mt X.prog X.w X.K X.mg X.base C k m ps sp) (hr : Room k X.A)
    (ht : eval (.Call (.Attribute o m apos) [] [] pos) X.env = (do
      let ov ← eval o X.env
      standAt apos.atName
      let (f, first) ← holding [ov] (getMethod ov m pl)
      callWith pos f first (backTo pos (starEach [] X.env)) (backToKw pos (keywordEach [] X.env))) := by rfl) : PE X (.Call (.Attribute o m apos) [] [] pos) (tMeth C m sp [] E0 ta tNil) := by
  obtain ⟨f, fd, G, hm, hb⟩ := D
  exact pe_meth0 he c hm G hr hb .nil pass0 ht
theorem pe_nd (D : Mc X.prog X.w X.K X.mg X.base C k x ps sp) (hr : Room (k + 1) X.A) (hg : Gl X x) (ha : PA X (e :: es) t) (hdb : (x == ("__debug__" : Str)) = false := by decide)
    (he : starEach (e :: es) X.env = (false, eval e X.env) :: starEach es X.env := by rfl) (hpl : (backTo pos (starEach es X.env)).any (·.1) = false := by rfl) : PE X (.Call (.Name x p) (e :: es) [] pos) (tMake C sp [] E0 t) := by
  obtain ⟨f, fd, M, G, hm, hb⟩ := D
  exact pe_make M G hr hg hm hb .nil pass0 ha hdb he hpl
end

/-! ### what stays of a heap -/
def Imm : HO → Prop
  | .tup _ => True
  | .own _ => True
  | .frz _ _ => True
  | _ => False
/-- all stays but what stands at Y and may change -/
def Kp (Y : List Addr) (H H' : Hp) : Prop := ∀ a o, H a = some o → (a ∉ Y ∨ Imm o) → H' a = some o
theorem Kp.refl (Y : List Addr) (H : Hp) : Kp Y H H := fun _ _ e _ => e
theorem Kp.same {Y : List Addr} {H H' : Hp} (h : Same H H') : Kp Y H H' := fun a o e _ => h a o e
theorem Kp.to {H H' : Hp} (h : Kp [] H H') : Same H H' := fun a o e => h a o e (.inl (by simp))
theorem Kp.trans {Y Z : List Addr} {H H1 H2 : Hp} (a : Kp Y H H1) (b : Kp Z H1 H2) (h : ∀ z ∈ Z, z ∈ Y ∨ H z = none) : Kp Y H H2 := fun c o e hc => by
  refine b c o (a c o e hc) ?_
  rcases hc with hc | hc
  · by_cases hz : c ∈ Z
    · rcases h c hz with q | q
      · exact absurd q hc
      · rw [e] at q; cases q
    · exact .inl hz
  · exact .inr hc
theorem Kp.mono {Y Z : List Addr} {H H' : Hp} (a : Kp Y H H') (h : ∀ y ∈ Y, y ∈ Z ∨ H y = none) : Kp Z H H' := (Kp.refl Z H).trans a h
theorem Kp.tk {Y : List Addr} {H H' : Hp} (h : Kp Y H H') : TK H H' := fun a xs e => h a _ e (.inr trivial)
theorem Kp.at {Y : List Addr} {H H' : Hp} (h : Kp Y H H') {a : Addr} {o : HO} (e : H a = some o) (hn : a ∉ Y) : H' a = some o := h a o e (.inl hn)
theorem Kp.free {Y : List Addr} {H H' : Hp} (h : Kp Y H H') {a : Addr} (e : H' a = none) (hn : a ∉ Y) : H a = none := by
  cases q : H a with
  | none => rfl
  | some o => rw [h.at q hn] at e; cases e
theorem Kp.chg {Y : List Addr} {H H' : Hp} {a : Addr} {o o' : HO} (h : Kp Y H H') (e : H' a = some o) (hm : ¬ Imm o) (ha : a ∈ Y ∨ H a = none) : Kp Y H (upd H' a o') := fun b u q hb => by
  have q' := h b u q hb
  by_cases hba : b = a
  · subst hba
    rw [e] at q'
    cases q'
    rcases hb with hb | hb
    · rcases ha with ha | ha
      · exact absurd ha hb
      · rw [q] at ha; cases ha
    · exact absurd hb hm
  · rw [upd_ne hba]; exact q'
theorem Kp.new {Y : List Addr} {H H' : Hp} {a : Addr} {o : HO} (h : Kp Y H H') (e : H' a = none) : Kp Y H (upd H' a o) := fun b u q hb => by
  have q' := h b u q hb
  rw [upd_ne (fun z => by rw [z, e] at q'; cases q')]
  exact q'
theorem Same.upd_new {H H' : Hp} {a : Addr} {o : HO} (h : Same H H') (e : H' a = none) : Same H (upd H' a o) := fun b u q => by
  have q' := h b u q
  rw [upd_ne (fun z => by rw [z, e] at q'; cases q')]
  exact q'
/-- what was new may change -/
theorem Same.upd_mine {H H' : Hp} {a : Addr} {o : HO} (h : Same H H') (e : H a = none) : Same H (upd H' a o) := fun b u q => by
  rw [upd_ne (fun z => by rw [z, e] at q; cases q)]
  exact h b u q

def nts (l : List Nat) : List V := l.map fun n => V.int (n : Nat)
theorem nts_len (l : List Nat) : (nts l).length = l.length := List.length_map ..
theorem nts_at {l : List Nat} {i c : Nat} (h : l[i]? = some c) : (nts l)[i]? = some (V.int (c : Nat)) := by
  unfold nts; rw [List.getElem?_map, h]; rfl
theorem nts_set (l : List Nat) (i v : Nat) : (nts l).set i (V.int (v : Nat)) = nts (l.set i v) := by
  unfold nts; rw [List.map_set]
theorem nts_app (l : List Nat) (v : Nat) : nts l ++ [V.int (v : Nat)] = nts (l ++ [v]) := by
  unfold nts; rw [List.map_append]; rfl
/-- a new list, a new tuple, a value -/
def NewL (H : Hp) (xs : List V) (Q : VK) : Prop := ∀ p H', Same H H' → H p = none → H' p = some (.lst xs) → Q (.ref p) H'
def NewT (H : Hp) (xs : List V) (Q : VK) : Prop := ∀ p H', Same H H' → H p = none → H' p = some (.tup xs) → Q (.ref p) H'
def Ret (H : Hp) (v : V) (Q : VK) : Prop := ∀ H', Same H H' → Q v H'
def DeckAt (H : Hp) (dk : Addr) (S R : Nat) : Prop := H dk = some (.tup [.int (S : Nat), .int (R : Nat)])
theorem DeckAt.keep {H H' : Hp} {dk : Addr} {S R : Nat} (t : TK H H') (d : DeckAt H dk S R) : DeckAt H' dk S R := t _ _ d
end Fi
/-! check_deck, suit_of, cards_of, count_cards, of_suit, side_of -/
namespace Fi
open PySem PySem.Spec PyProof.Rows L2

/-- what the module's names stand for -/
structure Txt (K : PySem.W.Frag) (mg : Str → Option Value) : Prop where
  f_len : mg "len" = none
  f_sorted : mg "sorted" = none
  f_list : mg "list" = none
  f_tuple : mg "tuple" = none
  f_max : mg "max" = none
  f_min : mg "min" = none
  f_dict : mg "dict" = none
  f_range : mg "range" = none
  f_enumerate : mg "enumerate" = none
  f_abs : mg "abs" = none
  f_int : mg "int" = none
  f_isinstance : mg "isinstance" = none
  suits : ∃ t, mg "MAX_SUITS" = some (.int 4 t)
  ranks : ∃ t, mg "MAX_RANKS" = some (.int 13 t)

/-! ### promises -/
def spCheckDeck : Sp := fun vs H Q _ => ∃ dk S R, vs = [.ref dk] ∧ DeckAt H dk S R ∧ 1 ≤ S ∧ S ≤ 4 ∧ 1 ≤ R ∧ R ≤ 13 ∧ Q .non H
def spSuitOf : Sp := fun vs H Q _ => ∃ dk S R c, vs = [.ref dk, .int (c : Nat)] ∧ DeckAt H dk S R ∧ 0 < R ∧ R ≤ 13 ∧ Q (.int (c / R : Nat)) H
def spCardsOf : Sp := fun vs H Q _ => ∃ m : Nat, vs = [.int (m : Nat)] ∧ m < 2 ^ 16 ∧ NewL H (nts (cardsOf m)) Q
def spCount : Sp := fun vs H Q _ => ∃ m : Nat, vs = [.int (m : Nat)] ∧ m < 2 ^ 16 ∧ Ret H (.int ((cardsOf m).length : Nat)) Q
def spOfSuit : Sp := fun vs H Q _ => ∃ dk S R m s, vs = [.ref dk, .int (m : Nat), .int (s : Nat)] ∧ DeckAt H dk S R ∧ R ≤ 13 ∧ s ≤ 1000 ∧ Q (.int (ofSuit R m s : Nat)) H
def spSide : Sp := fun vs H Q _ => ∃ n : Nat, vs = [.int (n : Nat)] ∧ Q (.int (n % 2 : Nat)) H

theorem intBits_bl (m : Nat) : Builtin.Int.intBits (m : Nat) = bl m := by
  unfold Builtin.Int.intBits bl
  by_cases h : m = 0
  · subst h; rfl
  · rw [if_neg h, if_neg (by simpa using h)]
    rfl
theorem bl_le {m n : Nat} (h : m < 2 ^ n) : bl m ≤ n := by
  unfold bl
  split
  · omega
  · rename_i h0
    have := (Nat.log2_lt h0).mpr h
    omega
theorem bit_test (m i : Nat) : decide (V.int (Builtin.bitAnd ((m : Int) / 2 ^ (((0 : Int) + (i : Nat))).toNat) 1) = V.int 1) = m.testBit i := by
  have e1 : (((0 : Int) + (i : Nat))).toNat = i := by omega
  rw [e1]
  have e2 : ((m : Int) / 2 ^ i) = ((m / 2 ^ i : Nat) : Int) := by
    rw [Int.natCast_ediv, Int.natCast_pow]; rfl
  rw [e2]
  have e3 : Builtin.bitAnd ((m / 2 ^ i : Nat) : Int) 1 = ((m / 2 ^ i % 2 : Nat) : Int) := by
    generalize m / 2 ^ i = q
    rw [bitAnd_pp (Int.natCast_nonneg _) (by decide)]
    show (((q &&& 1 : Nat)) : Int) = _
    rw [Nat.and_one_is_mod]
  rw [e3, Nat.testBit_eq_decide_div_mod_eq]
  by_cases h : m / 2 ^ i % 2 = 1
  · rw [h]; rfl
  · rw [decide_eq_false h, decide_eq_false]
    intro z
    injection z with z
    exact h (by omega)
theorem shl_nat (a b : Nat) : (a : Int) * (2 : Int) ^ ((b : Nat) : Int).toNat = ((a <<< b : Nat) : Int) := by
  rw [Nat.shiftLeft_eq, Int.toNat_natCast, Int.natCast_mul, Int.natCast_pow]
  rfl
theorem range_filter_succ (f : Nat → Bool) (i : Nat) : (List.range (i + 1)).filter f = if f i = true then (List.range i).filter f ++ [i] else (List.range i).filter f := by
  rw [List.range_succ, List.filter_append, List.filter_cons]
  split <;> simp

section
variable {P : Program} {w : World} {K : PySem.W.Frag} {mg : Str → Option Value} {base : Heap}
theorem sc_check_deck : FnScope ["deck"] ["deck"] (defScope (top 12)) := ⟨rfl, rfl, rfl, by decide +kernel, rfl, by decide +kernel, by decide +kernel⟩
theorem ok_check_deck (E : EntF K mg "check_deck" (top 12)) (T : Txt K mg) : Df P w K mg base 1 "check_deck" ["deck"] spCheckDeck := by
  obtain ⟨t1, g1⟩ := T.suits
  obtain ⟨t2, g2⟩ := T.ranks
  refine df_mk E sc_check_deck (fun _ _ _ _ _ _ us hl => match us, hl with | [_], _ => rfl) (fun vs H Q E h => ?_) (fun f cdv A outer s H vs Q E hr h => ?_)
  · obtain ⟨dk, S, R, rfl, _⟩ := h; rfl
  · obtain ⟨dk, S, R, rfl, hd, s1, s4, r1, r13, q⟩ := h
    refine ⟨_, (pss_one (ps_if (PW.pt (pw_or (pt_not (pt_chain op_le op_le pe_int (pe_ix ix_tup (pv 0) pe_int (fun _ _ => rfl)) (pe_glob (v := .int 4) rfl g1 ⟨_, rfl⟩))) (pw_or1 (pt_not (pt_chain op_le op_le pe_int (pe_ix ix_tup (pv 0) pe_int (fun _ _ => rfl)) (pe_glob (v := .int 13) rfl g2 ⟨_, rfl⟩)))))) (pss_one ps_never) pss_nil)), ?_⟩
    refine ⟨_, rfl, dk, _, _, _, rfl, rfl, SqT.of hd, at_of (j := 0) rfl rfl, _, _, rfl, rfl, true, congrArg V.bl (decide_eq_true (by omega)), iteT ?_⟩
    refine ⟨_, _, rfl, rfl, true, congrArg V.bl (decide_eq_true (by omega)), iteF ?_⟩
    refine ⟨_, rfl, dk, _, _, _, rfl, rfl, SqT.of hd, at_of (j := 1) rfl rfl, _, _, rfl, rfl, true, congrArg V.bl (decide_eq_true (by omega)), iteT ?_⟩
    refine ⟨_, _, rfl, rfl, true, congrArg V.bl (decide_eq_true (by omega)), iteF ?_⟩
    exact q
theorem sc_suit_of : FnScope ["deck", "card"] ["deck", "card"] (defScope (top 13)) := ⟨rfl, rfl, rfl, by decide +kernel, rfl, by decide +kernel, by decide +kernel⟩
theorem ok_suit_of (E : EntF K mg "suit_of" (top 13)) : Df P w K mg base 1 "suit_of" ["deck", "card"] spSuitOf := by
  refine df_mk E sc_suit_of (fun _ _ _ _ _ _ us hl => match us, hl with | [_, _], _ => rfl) (fun vs H Q E h => ?_) (fun f cdv A outer s H vs Q E hr h => ?_)
  · obtain ⟨dk, S, R, c, rfl, _⟩ := h; rfl
  · obtain ⟨dk, S, R, c, rfl, hd, r0, r13, q⟩ := h
    refine ⟨_, (pss_one (ps_ret (pe_op op_fdiv (pv 1) (pe_ix ix_tup (pv 0) pe_int (fun _ _ => rfl))))), ?_⟩
    refine ⟨_, rfl, _, rfl, dk, _, _, _, rfl, rfl, SqT.of hd, at_of (j := 1) rfl rfl, _, _, rfl, rfl, ⟨by omega, by omega⟩, ?_⟩
    exact q
theorem sc_cards_of : FnScope ["mask", "card"] ["mask"] (defScope (top 14)) := ⟨rfl, rfl, rfl, by decide +kernel, rfl, by decide +kernel, by decide +kernel⟩
theorem ok_cards_of (E : EntF K mg "cards_of" (top 14)) (T : Txt K mg) : Df P w K mg base 1 "cards_of" ["mask"] spCardsOf := by
  refine df_mk E sc_cards_of (fun _ _ _ _ _ _ us hl => match us, hl with | [_], _ => rfl) (fun vs H Q E h => ?_) (fun f cdv A outer s H vs Q E hr h => ?_)
  · obtain ⟨m, rfl, _⟩ := h; rfl
  · obtain ⟨m, rfl, hm, q⟩ := h
    refine ⟨_, (pss_one (ps_ret (pe_lc (own := [("card", 1)]) (g := gName 1) rfl sc_cards_of.nd (pi_range1 rfl T.f_range (pa_cons (pe_bits (pv 0)) pa_nil)) (blkOk_by (N := ["mask", "card"]) (sc := defScope (top 14)) (by decide +kernel)) (fun _ _ _ _ _ => pg_name (i := 1) sc_cards_of.nd rfl (Or.inl rfl)) (fun _ _ _ _ _ => pts_one (pt_cmpR op_eq (pe_op op_and (pe_op op_shr (pv 0) (pv 1)) pe_int) pe_int (nomark _))) (fun _ _ _ _ _ => (pv 1))))), ?_⟩
    have hb := bl_le hm
    refine ⟨_, rfl, _, rfl, _, rfl, by omega, ?_, fun D hD => ?_⟩
    · rw [intBits_bl]; omega
    refine lc_range (lo := 0) (n := _) (fun i H' => Same H H' ∧ H' D = some (.lst (nts ((List.range i).filter fun c => m.testBit c))) ∧ i ≤ bl m) ⟨Fi.Same.upd_new (Same.refl H) hD, upd_same, Nat.zero_le _⟩ ?_ ?_
    · rintro i H' hi ⟨sm, hl, hib⟩
      have hi' : i < bl m := by
        have e : (((Builtin.Int.intBits (m : Nat) : Nat) : Int)).toNat = bl m := by rw [intBits_bl]; omega
        omega
      refine ⟨rfl, ?_⟩
      refine ⟨_, rfl, _, rfl, _, _, rfl, rfl, by omega, _, _, rfl, rfl, rfl, _, rfl, ?_⟩
      rw [bit_test]
      refine ite2 (fun hb => ?_) fun hb => ?_
      · refine ⟨_, rfl, _, hl, ?_, Fi.Same.upd_mine sm hD, ?_, hi'⟩
        · rw [nts_len, sizeLine_eq]
          have := List.length_filter_le (fun c => m.testBit c) (List.range i)
          rw [List.length_range] at this
          omega
        · rw [upd_same, range_filter_succ, if_pos hb, ← nts_app]
          have e : (0 : Int) + (i : Nat) = (i : Nat) := by omega
          rw [e]
      · refine ⟨sm, ?_, hi'⟩
        rw [hl, range_filter_succ, if_neg hb]
    · rintro H' ⟨sm, hl, _⟩
      refine q D H' sm hD ?_
      rw [hl]
      have e : (((Builtin.Int.intBits (m : Nat) : Nat) : Int)).toNat = bl m := by rw [intBits_bl]; omega
      rw [e]
      rfl
theorem sc_count_cards : FnScope ["mask"] ["mask"] (defScope (top 15)) := ⟨rfl, rfl, rfl, by decide +kernel, rfl, by decide +kernel, by decide +kernel⟩
theorem ok_count_cards (E : EntF K mg "count_cards" (top 15)) (T : Txt K mg) (D_cards_of : ∀ base, Df P w K mg base 1 "cards_of" ["mask"] spCardsOf) : Df P w K mg base 2 "count_cards" ["mask"] spCount := by
  refine df_mk E sc_count_cards (fun _ _ _ _ _ _ us hl => match us, hl with | [_], _ => rfl) (fun vs H Q E h => ?_) (fun f cdv A outer s H vs Q E hr h => ?_)
  · obtain ⟨m, rfl, _⟩ := h; rfl
  · obtain ⟨m, rfl, hm, q⟩ := h
    refine ⟨_, (pss_one (ps_ret (pe_callB call_len_seq rfl T.f_len PySem.boot_len (pa_cons (pe_cd (D_cards_of _) hr rfl (pa_cons (pv 0) pa_nil)) pa_nil)))), ?_⟩
    refine ⟨_, rfl, m, rfl, hm, fun p H' sm np hp => ?_⟩
    refine ⟨p, _, rfl, .inl (SqL.of hp), ?_⟩
    rw [nts_len]
    exact q H' sm
theorem sc_of_suit : FnScope ["deck", "mask", "suit"] ["deck", "mask", "suit"] (defScope (top 16)) := ⟨rfl, rfl, rfl, by decide +kernel, rfl, by decide +kernel, by decide +kernel⟩
theorem ok_of_suit (E : EntF K mg "of_suit" (top 16)) : Df P w K mg base 1 "of_suit" ["deck", "mask", "suit"] spOfSuit := by
  refine df_mk E sc_of_suit (fun _ _ _ _ _ _ us hl => match us, hl with | [_, _, _], _ => rfl) (fun vs H Q E h => ?_) (fun f cdv A outer s H vs Q E hr h => ?_)
  · obtain ⟨dk, S, R, m, s, rfl, _⟩ := h; rfl
  · obtain ⟨dk, S, R, m, s', rfl, hd, r13, hs, q⟩ := h
    have hR : (1 : Nat) <<< R ≤ 2 ^ 13 := by rw [Nat.one_shiftLeft]; exact Nat.pow_le_pow_right (by decide) r13
    have hR1 : 0 < (1 : Nat) <<< R := by rw [Nat.one_shiftLeft]; exact Nat.pow_pos (by decide)
    have hsR : s' * R ≤ 1000 * 13 := Nat.mul_le_mul hs r13
    have e1 : (1 : Int) * (2 : Int) ^ ((R : Nat) : Int).toNat = ((1 <<< R : Nat) : Int) := shl_nat 1 R
    have e2 : ((1 <<< R : Nat) : Int) - 1 = ((1 <<< R - 1 : Nat) : Int) := by omega
    have e3 : ((s' : Nat) : Int) * ((R : Nat) : Int) = ((s' * R : Nat) : Int) := by simp
    refine ⟨_, (pss_one (ps_ret (pe_op op_and (pv 1) (pe_op op_shl (pe_op op_sub (pe_op op_shl pe_int (pe_ix ix_tup (pv 0) pe_int (fun _ _ => rfl))) pe_int) (pe_op op_mul (pv 2) (pe_ix ix_tup (pv 0) pe_int (fun _ _ => rfl))))))), ?_⟩
    refine ⟨_, rfl, _, rfl, dk, _, _, _, rfl, rfl, SqT.of hd, at_of (j := 1) rfl rfl, _, _, rfl, rfl, ⟨by omega, by omega, by decide⟩, _, _, rfl, rfl, ?_⟩
    refine ⟨_, rfl, _, rfl, dk, _, _, _, rfl, rfl, SqT.of hd, at_of (j := 1) rfl rfl, _, _, rfl, rfl, .inl ⟨by omega, by omega⟩, ?_⟩
    have e2' : (1 : Int) * (2 : Int) ^ ((R : Nat) : Int).toNat - 1 = ((1 <<< R - 1 : Nat) : Int) := by rw [e1, e2]
    refine ⟨_, _, congrArg V.int e2', congrArg V.int e3, ⟨by omega, by omega, by omega⟩, _, _, rfl, rfl, ?_⟩
    show Q (V.int (Builtin.bitAnd (m : Int) (((1 <<< R - 1 : Nat) : Int) * (2 : Int) ^ ((s' * R : Nat) : Int).toNat))) H
    rw [shl_nat, bitAnd_pp (Int.natCast_nonneg _) (Int.natCast_nonneg _)]
    exact q
theorem sc_side_of : FnScope ["player"] ["player"] (defScope (top 18)) := ⟨rfl, rfl, rfl, by decide +kernel, rfl, by decide +kernel, by decide +kernel⟩
theorem ok_side_of (E : EntF K mg "side_of" (top 18)) : Df P w K mg base 1 "side_of" ["player"] spSide := by
  refine df_mk E sc_side_of (fun _ _ _ _ _ _ us hl => match us, hl with | [_], _ => rfl) (fun vs H Q E h => ?_) (fun f cdv A outer s H vs Q E hr h => ?_)
  · obtain ⟨n, rfl, _⟩ := h; rfl
  · obtain ⟨n, rfl, q⟩ := h
    refine ⟨_, (pss_one (ps_ret (pe_op op_mod (pv 0) pe_int))), ?_⟩
    refine ⟨_, rfl, _, _, rfl, rfl, by show (0 : Int) < 2; decide, ?_⟩
    exact q
end
end Fi
/-! check_deal, winner_of -/
namespace Fi
open PySem PySem.Spec PyProof.Rows L2

def orAll (l : List Nat) : Nat := l.foldl (· ||| ·) 0
/-- a deal that check_deal passes -/
structure DealOk (S R : Nat) (hs : List Nat) (n : Nat) : Prop where
  len : hs.length = 4
  s1 : 1 ≤ S
  s4 : S ≤ 4
  r1 : 1 ≤ R
  r13 : R ≤ 13
  SR : S * R ≤ 16
  big : ∀ h ∈ hs, h < 2 ^ (S * R)
  dis : ∀ i h, hs[i]? = some h → h &&& orAll (hs.take i) = 0
  cnt : ∀ h ∈ hs, (cardsOf h).length = n
  n0 : 0 < n
def spCheckDeal : Sp := fun vs H Q _ => ∃ dk hh S R hs n, vs = [.ref dk, .ref hh] ∧ DeckAt H dk S R ∧ H hh = some (.tup (nts hs)) ∧ DealOk S R hs n ∧ Ret H .non Q
def spWinner : Sp := fun vs H Q _ => ∃ (dk cl : Addr) (S R : Nat) (tr : Int) (ld : Nat) (cs : List Nat), vs = [.ref dk, .int tr, .int (ld : Nat), .ref cl] ∧ DeckAt H dk S R ∧ H cl = some (.lst (nts cs)) ∧ 0 < R ∧ R ≤ 13 ∧ cs ≠ [] ∧ Ret H (.int (winner R tr ld cs : Nat)) Q

theorem b_eqT {i j : Int} (h : i = j) : V.bl (decide (V.int i = V.int j)) = V.bl true := by rw [h, decide_eq_true rfl]
theorem b_eqF {i j : Int} (h : i ≠ j) : V.bl (decide (V.int i = V.int j)) = V.bl false := by rw [decide_eq_false (fun z => h (by injection z))]
theorem b_neT {i j : Int} (h : i ≠ j) : V.bl (!decide (V.int i = V.int j)) = V.bl true := by rw [decide_eq_false (fun z => h (by injection z))]; rfl
theorem b_neF {i j : Int} (h : i = j) : V.bl (!decide (V.int i = V.int j)) = V.bl false := by rw [h, decide_eq_true rfl]; rfl
theorem b_T {p : Prop} [Decidable p] (h : p) : V.bl (decide p) = V.bl true := by rw [decide_eq_true h]
theorem b_F {p : Prop} [Decidable p] (h : ¬ p) : V.bl (decide p) = V.bl false := by rw [decide_eq_false h]
theorem orAll_snoc (l : List Nat) (h : Nat) : orAll (l ++ [h]) = orAll l ||| h := by
  unfold orAll; rw [List.foldl_append]; rfl
theorem take_snoc {l : List Nat} {i x : Nat} (h : l[i]? = some x) : l.take (i + 1) = l.take i ++ [x] := by
  rw [List.take_add_one, h]; rfl
theorem nts_inv {l : List Nat} {i : Nat} {v : V} (h : (nts l)[i]? = some v) : ∃ x, l[i]? = some x ∧ v = .int (x : Nat) := by
  unfold nts at h
  rw [List.getElem?_map] at h
  cases e : l[i]? with
  | none => rw [e] at h; cases h
  | some x => rw [e] at h; cases h; exact ⟨x, rfl, rfl⟩
theorem putK_same {κ : Type} [DecidableEq κ] {k : κ} {v w : V} : putK [(k, v)] k w = [(k, w)] := by
  unfold putK; simp
/-- over enumerate(list) -/
theorem for_enum {K : PySem.W.Frag} {a : Addr} {xs : List V} {g : TG} {tb : TS} {D : Ends} {σ : L2.St} {H : Hp} (Pv : Nat → L2.St → Hp → Prop) (h0 : Pv 0 σ H) (hl : ∀ i σ H, i ≤ xs.length → Pv i σ H → SqL K H a xs)
    (hs : ∀ i x T σ H, xs[i]? = some x → Pv i σ H → H T = none → g (.ref T) σ (upd H T (.tup [.int (i : Nat), x])) fun σ2 H2 => tb { D with nx := Pv (i + 1), ct := Pv (i + 1), bk := D.nx } σ2 H2) (hd : ∀ σ H, Pv xs.length σ H → D.nx σ H) :
    ∃ W : Nat → Nat → L2.St → Hp → Prop, (∃ m, W 0 m σ H) ∧ ∀ i m σ H, W i m σ H →
      ((Ite K a).stop i H ∧ D.nx σ H) ∨ ((Ite K a).go i H ∧ ∃ N : L2.St → Hp → Prop, (∀ σ' H', N σ' H' → ∃ m', m' < m ∧ W (i + 1) m' σ' H') ∧ ∀ x H', (Ite K a).yld i H x H' → g x σ H' fun σ2 H2 => tb { D with nx := N, ct := N, bk := D.nx } σ2 H2) := by
  refine ⟨fun i m σ H => m = xs.length - i ∧ i ≤ xs.length ∧ Pv i σ H, ⟨xs.length, by simp, Nat.zero_le _, h0⟩, ?_⟩
  rintro i m σ H ⟨rfl, hi, p⟩
  have q := hl i σ H hi p
  by_cases hlt : i < xs.length
  · refine .inr ⟨⟨xs, xs[i], q, by simp [hlt]⟩, Pv (i + 1), fun σ' H' p' => ⟨xs.length - (i + 1), by omega, rfl, hlt, p'⟩, fun x H' y => ?_⟩
    obtain ⟨T, x, e, hT, e2, y⟩ := y
    subst e e2
    exact hs i x T σ _ (y xs q) p hT
  · have e : i = xs.length := by omega
    subst e
    exact .inl ⟨⟨xs, q, Nat.le_refl _⟩, hd σ H p⟩
def winAt (R : Nat) (tr : Int) (cs : List Nat) (i : Nat) : Nat := (List.range i).foldl (fun b i => if beats R tr (cs.getD i 0) (cs.getD b 0) = true then i else b) 0
theorem winAt_succ (R : Nat) (tr : Int) (cs : List Nat) (i : Nat) : winAt R tr cs (i + 1) = if beats R tr (cs.getD i 0) (cs.getD (winAt R tr cs i) 0) = true then i else winAt R tr cs i := by
  unfold winAt; rw [List.range_succ, List.foldl_append]; rfl
theorem winAt_lt (R : Nat) (tr : Int) (cs : List Nat) : ∀ i, winAt R tr cs i ≤ i - 1
  | 0 => Nat.le_refl _
  | i + 1 => by
    have := winAt_lt R tr cs i
    rw [winAt_succ]
    split <;> omega
theorem getD_at {l : List Nat} {i : Nat} (h : i < l.length) : l[i]? = some (l.getD i 0) := by
  rw [List.getD_eq_getElem?_getD, List.getElem?_eq_getElem h]; rfl
section
variable {P : Program} {w : World} {K : PySem.W.Frag} {mg : Str → Option Value} {base : Heap}
theorem sc_check_deal : FnScope ["deck", "hands", "taken", "sizes", "hand"] ["deck", "hands"] (defScope (top 19)) := ⟨rfl, rfl, rfl, by decide +kernel, rfl, by decide +kernel, by decide +kernel⟩
theorem ok_check_deal (E : EntF K mg "check_deal" (top 19)) (T : Txt K mg) (D_check_deck : ∀ base, Df P w K mg base 1 "check_deck" ["deck"] spCheckDeck) (D_count_cards : ∀ base, Df P w K mg base 2 "count_cards" ["mask"] spCount) :
    Df P w K mg base 3 "check_deal" ["deck", "hands"] spCheckDeal := by
  refine df_mk E sc_check_deal (fun _ _ _ _ _ _ us hl => match us, hl with | [_, _], _ => rfl) (fun vs H Q E h => ?_) (fun f cdv A outer s H vs Q E hr h => ?_)
  · obtain ⟨dk, hh, S, R, hs, n, rfl, _⟩ := h; rfl
  · obtain ⟨dk, hh, S, R, hs, n, rfl, hd, hth, ok, q⟩ := h
    have hu1 := hu_of hr
    refine ⟨_, (pss_cons (ps_expr (pe_cd ((D_check_deck _).mono (by decide)) hr rfl (pa_cons (pv 0) pa_nil)))
      (pss_cons (ps_set (i := 2) sc_check_deal.nd rfl (Or.inl rfl) pe_int)
      (pss_cons (ps_set (i := 3) sc_check_deal.nd rfl (Or.inl rfl) pe_dnewK)
      (pss_cons (ps_for PassesOwn.never rfl (pi_tup (pv 1)) (pg_name (i := 4) sc_check_deal.nd rfl (Or.inl rfl)) (pss_cons (ps_if (PW.pt (pw_or (pt_cmpR op_ne (pe_op op_and (pv 4) (pv 2)) pe_int (nomark _)) (pw_or1 (pt_cmpR op_ne (pe_op op_shr (pv 4) (pe_op op_mul (pe_ix ix_tup (pv 0) pe_int (fun _ _ => rfl)) (pe_ix ix_tup (pv 0) pe_int (fun _ _ => rfl)))) pe_int (nomark _))))) (pss_one ps_never) pss_nil)
      (pss_cons (ps_set (i := 2) sc_check_deal.nd rfl (Or.inl rfl) (pe_op op_or (pv 2) (pv 4)))
      (pss_one (ps_dput hu1 (pv 3) (pe_cd (D_count_cards _) hr rfl (pa_cons (pv 4) pa_nil)) pe_bl rfl)))))
      (pss_one (ps_if (PW.pt (pw_or (pt_cmpR op_ne (pe_callB call_lenD rfl T.f_len PySem.boot_len (pa_cons (pv 3) pa_nil)) pe_int (nomark _)) (pw_or1 (pt_cmp (pc_din hu1 pe_int (pv 3)))))) (pss_one ps_never) pss_nil)))))), ?_⟩
    have s1 := ok.s1
    have s4 := ok.s4
    have r1 := ok.r1
    have r13 := ok.r13
    refine ⟨_, rfl, dk, S, R, rfl, hd, ok.s1, ok.s4, ok.r1, ok.r13, fun sz hsz => ?_⟩
    refine ⟨_, rfl, hh, rfl, ⟨_, SqT.of (by rw [upd_ne (fun z => by rw [z, hsz] at hth; cases hth)]; exact hth)⟩, ?_⟩
    have S0 : Same H (upd H sz (.dK [])) := Fi.Same.upd_new (Same.refl H) hsz
    refine for_tup (xs := nts hs) (fun i σ H' => Same H H' ∧ H' sz = some (.dK (if i = 0 then [] else [(.inl (n : Nat), .bl true)])) ∧ ∃ x, σ = [some (.ref dk), some (.ref hh), some (.int (orAll (hs.take i) : Nat)), some (.ref sz), x]) ⟨S0, upd_same, none, rfl⟩ ?_ ?_ ?_
    · rintro i σ H' hi ⟨sm, _, _⟩
      exact SqT.of (sm _ _ hth)
    · rintro i v σ H' hi ⟨sm, hz, x, rfl⟩
      obtain ⟨h, hhi, rfl⟩ := nts_inv hi
      have hm : h ∈ hs := List.mem_of_getElem? hhi
      have e0 : Builtin.bitAnd ((h : Nat) : Int) ((orAll (hs.take i) : Nat) : Int) = 0 := by
        rw [bitAnd_pp (Int.natCast_nonneg _) (Int.natCast_nonneg _)]
        show (((h &&& orAll (hs.take i) : Nat)) : Int) = 0
        rw [ok.dis i h hhi]; rfl
      refine ⟨_, rfl, _, rfl, _, _, rfl, rfl, rfl, false, b_neF e0, iteF ?_⟩
      refine ⟨_, rfl, _, rfl, dk, _, _, _, rfl, rfl, SqT.of (sm _ _ hd), at_of (j := 0) rfl rfl, _, rfl, dk, _, _, _, rfl, rfl, SqT.of (sm _ _ hd), at_of (j := 1) rfl rfl, _, _, rfl, rfl, .inl ⟨by omega, by omega⟩, ?_⟩
      have e1 : (S : Int) * (R : Int) = ((S * R : Nat) : Int) := by simp
      have e2 : ((h : Nat) : Int) / 2 ^ ((S : Int) * (R : Int)).toNat = 0 := by
        rw [e1, Int.toNat_natCast]
        have := ok.big h hm
        refine Int.ediv_eq_zero_of_lt (Int.natCast_nonneg _) ?_
        exact_mod_cast this
      refine ⟨_, _, rfl, rfl, by rw [e1]; exact Int.natCast_nonneg _, rfl, false, b_neF e2, iteF ?_⟩
      refine ⟨_, rfl, _, rfl, _, _, rfl, rfl, ?_⟩
      have e3 : Builtin.bitOr ((orAll (hs.take i) : Nat) : Int) ((h : Nat) : Int) = ((orAll (hs.take (i + 1)) : Nat) : Int) := by
        rw [take_snoc hhi, orAll_snoc, Bits.bitOr_pp (Int.natCast_nonneg _) (Int.natCast_nonneg _)]
        rfl
      have hb : h < 2 ^ 16 := Nat.lt_of_lt_of_le (ok.big h hm) (Nat.pow_le_pow_right (by decide) ok.SR)
      refine ⟨_, rfl, _, rfl, h, rfl, hb, fun H2 sm2 => ?_⟩
      refine ⟨sz, _, rfl, DPut.k (k := .inl _) (sm2 _ _ hz) ?_, ?_⟩
      · split <;> exact small1000 (by simp)
      · refine ⟨Fi.Same.upd_mine (sm.trans sm2) hsz, ?_, _, by rw [← e3]; rfl⟩
        rw [upd_same, if_neg (Nat.succ_ne_zero i), ok.cnt h hm]
        split
        · rfl
        · rw [putK_same]
    · rintro σ H' ⟨sm, hz, x, rfl⟩
      rw [nts_len, ok.len, if_neg (by decide)] at hz
      have n0 := ok.n0
      refine ⟨_, rfl, sz, _, rfl, hz, rfl, false, b_neF rfl, iteF ?_⟩
      refine ⟨_, rfl, sz, _, rfl, DGet.k (k := .inl 0) hz, false, ?_, iteF (q H' sm)⟩
      rw [valV_neg (fun z => by injection z with z; omega)]
      rfl
theorem sc_winner_of : FnScope ["deck", "trump", "leader", "cards", "best", "at", "card", "suit", "top"] ["deck", "trump", "leader", "cards"] (defScope (top 21)) := ⟨rfl, rfl, rfl, by decide +kernel, rfl, by decide +kernel, by decide +kernel⟩
theorem ok_winner_of (E : EntF K mg "winner_of" (top 21)) (T : Txt K mg) (D_suit_of : ∀ base, Df P w K mg base 1 "suit_of" ["deck", "card"] spSuitOf) :
    Df P w K mg base 2 "winner_of" ["deck", "trump", "leader", "cards"] spWinner := by
  refine df_mk E sc_winner_of (fun _ _ _ _ _ _ us hl => match us, hl with | [_, _, _, _], _ => rfl) (fun vs H Q E h => ?_) (fun f cdv A outer s H vs Q E hr h => ?_)
  · obtain ⟨dk, cl, S, R, tr, ld, cs, rfl, _⟩ := h; rfl
  · obtain ⟨dk, cl, S, R, tr, ld, cs, rfl, hd, hc, r0, r13, c0, q⟩ := h
    refine ⟨_, (pss_cons (ps_set (i := 4) sc_winner_of.nd rfl (Or.inl rfl) pe_int)
      (pss_cons (ps_for PassesOwn.never rfl (pi_enum rfl T.f_enumerate (pa_cons (pv 3) pa_nil)) (pg_tup rfl (pgs_cons (pg_name (i := 5) sc_winner_of.nd rfl (Or.inl rfl)) (pgs_cons (pg_name (i := 6) sc_winner_of.nd rfl (Or.inl rfl)) pgs_nil))) (pss_cons (ps_set (i := 7) sc_winner_of.nd rfl (Or.inl rfl) (pe_cd (D_suit_of _) hr rfl (pa_cons (pv 0) (pa_cons (pv 6) pa_nil))))
      (pss_cons (ps_set (i := 8) sc_winner_of.nd rfl (Or.inl rfl) (pe_cd (D_suit_of _) hr rfl (pa_cons (pv 0) (pa_cons (pe_ix ix_list (pv 3) (pv 4) (fun _ _ => rfl)) pa_nil))))
      (pss_one (ps_if (PW.pt (pw_or (PW.pt (pw_and (pt_cmpR op_eq (pv 7) (pv 8) (nomark _)) (pw_and1 (pt_cmpR op_gt (pv 6) (pe_ix ix_list (pv 3) (pv 4) (fun _ _ => rfl)) (nomark _))))) (pw_or1 (PW.pt (pw_and (pt_cmpR op_eq (pv 7) (pv 1) (nomark _)) (pw_and1 (pt_cmpR op_ne (pv 8) (pv 1) (nomark _)))))))) (pss_one (ps_set (i := 4) sc_winner_of.nd rfl (Or.inl rfl) (pv 5))) pss_nil)))))
      (pss_one (ps_ret (pe_op op_mod (pe_op op_add (pv 2) (pv 4)) pe_int))))), ?_⟩
    have hn : (nts cs).length = cs.length := nts_len cs
    have cpos : 0 < cs.length := List.length_pos_iff.mpr c0
    refine ⟨_, rfl, cl, _, rfl, SqL.of hc, ?_⟩
    refine for_enum (xs := nts cs) (fun i σ H' => Same H H' ∧ ∃ x1 x2 x3 x4, σ = [some (.ref dk), some (.int tr), some (.int (ld : Nat)), some (.ref cl), some (.int (winAt R tr cs i : Nat)), x1, x2, x3, x4]) ⟨Same.refl H, _, _, _, _, rfl⟩ ?_ ?_ ?_
    · rintro i σ H' hi ⟨sm, _⟩
      exact SqL.of (sm _ _ hc)
    · rintro i v T σ H' hi ⟨sm, x1, x2, x3, x4, rfl⟩ hT
      obtain ⟨c, hci, rfl⟩ := nts_inv hi
      have hil : i < cs.length := by
        obtain ⟨z, _⟩ := List.getElem?_eq_some_iff.mp hci
        exact z
      have ec : cs.getD i 0 = c := by rw [List.getD_eq_getElem?_getD, hci]; rfl
      have hb := winAt_lt R tr cs i
      have hbl : winAt R tr cs i < cs.length := by omega
      have hbc := getD_at hbl
      have hw := winAt_succ R tr cs i
      rw [ec] at hw
      generalize hB : winAt R tr cs i = B at *
      generalize hb' : cs.getD B 0 = b at *
      have sm2 : Same H (upd H' T (.tup [.int (i : Nat), .int (c : Nat)])) := Fi.Same.upd_new sm hT
      have hT2 : upd H' T (.tup [.int (i : Nat), .int (c : Nat)]) T = some (.tup [.int (i : Nat), .int (c : Nat)]) := upd_same
      generalize upd H' T (.tup [.int (i : Nat), .int (c : Nat)]) = H2 at *
      refine ⟨T, _, rfl, SqT.of hT2, rfl, _, _, rfl, _, _, rfl, rfl, ?_⟩
      refine ⟨_, rfl, _, rfl, dk, S, R, c, rfl, sm2 _ _ hd, r0, r13, ?_⟩
      refine ⟨_, rfl, _, rfl, _, rfl, cl, _, _, _, rfl, rfl, SqL.of (sm2 _ _ hc), at_of rfl (nts_at hbc), dk, S, R, b, rfl, sm2 _ _ hd, r0, r13, ?_⟩
      unfold beats at hw
      generalize c / R = cr at *
      generalize b / R = br at *
      by_cases h1 : cr = br
      · refine ⟨_, rfl, _, rfl, rfl, true, b_eqT (by rw [h1]), iteT ?_⟩
        by_cases h2 : b < c
        · refine ⟨_, rfl, _, rfl, _, rfl, cl, _, _, _, rfl, rfl, SqL.of (sm2 _ _ hc), at_of rfl (nts_at hbc), _, _, rfl, rfl, true, b_T (by omega), iteT ?_⟩
          refine iteT ?_
          rw [if_pos (by simp [h1, h2])] at hw
          exact ⟨_, rfl, sm2, _, _, _, _, by rw [hw]; rfl⟩
        · refine ⟨_, rfl, _, rfl, _, rfl, cl, _, _, _, rfl, rfl, SqL.of (sm2 _ _ hc), at_of rfl (nts_at hbc), _, _, rfl, rfl, false, b_F (by omega), iteF ?_⟩
          by_cases h3 : ((cr : Nat) : Int) = tr
          · refine ⟨_, rfl, _, rfl, rfl, true, b_eqT h3, iteT ?_⟩
            by_cases h4 : ((br : Nat) : Int) = tr
            · refine ⟨_, rfl, _, rfl, rfl, false, b_neF h4, iteF ?_⟩
              rw [if_neg (by  simp [h4, *])] at hw
              exact ⟨sm2, _, _, _, _, by rw [hw]; rfl⟩
            · refine ⟨_, rfl, _, rfl, rfl, true, b_neT h4, iteT ?_⟩
              rw [if_pos (by simp [h3, h4])] at hw
              exact ⟨_, rfl, sm2, _, _, _, _, by rw [hw]; rfl⟩
          · refine ⟨_, rfl, _, rfl, rfl, false, b_eqF h3, iteF ?_⟩
            refine iteF ?_
            rw [if_neg (by  simp [h3, *])] at hw
            exact ⟨sm2, _, _, _, _, by rw [hw]; rfl⟩
      · refine ⟨_, rfl, _, rfl, rfl, false, b_eqF (by omega), iteF ?_⟩
        refine iteF ?_
        by_cases h3 : ((cr : Nat) : Int) = tr
        · refine ⟨_, rfl, _, rfl, rfl, true, b_eqT h3, iteT ?_⟩
          by_cases h4 : ((br : Nat) : Int) = tr
          · refine ⟨_, rfl, _, rfl, rfl, false, b_neF h4, iteF ?_⟩
            rw [if_neg (by  simp [h4, *])] at hw
            exact ⟨sm2, _, _, _, _, by rw [hw]; rfl⟩
          · refine ⟨_, rfl, _, rfl, rfl, true, b_neT h4, iteT ?_⟩
            rw [if_pos (by simp [h3, h4])] at hw
            exact ⟨_, rfl, sm2, _, _, _, _, by rw [hw]; rfl⟩
        · refine ⟨_, rfl, _, rfl, rfl, false, b_eqF h3, iteF ?_⟩
          refine iteF ?_
          rw [if_neg (by  simp [h3, *])] at hw
          exact ⟨sm2, _, _, _, _, by rw [hw]; rfl⟩
    · rintro σ H' ⟨sm, x1, x2, x3, x4, rfl⟩
      refine ⟨_, rfl, _, rfl, _, _, rfl, rfl, _, _, rfl, rfl, by show (0 : Int) < 4; decide, ?_⟩
      have e : ((ld : Nat) : Int) + ((winAt R tr cs (nts cs).length : Nat) : Int) = ((ld + winIdx R tr cs : Nat) : Int) := by rw [nts_len]; rfl
      have e2 : (((ld : Nat) : Int) + ((winAt R tr cs (nts cs).length : Nat) : Int)) % 4 = ((winner R tr ld cs : Nat) : Int) := by rw [e]; rfl
      have q' := q H' sm
      rw [← e2] at q'
      exact q'
end
end Fi
/-! the play object: its places, what stays of it, positions as keys -/
namespace Fi
open PySem PySem.Spec PyProof.Rows L2

/-! ### positions as values -/
def nms (l : List Nat) : List NestedKey := l.map fun (n : Nat) => NestedKey.num (n : Nat)
def nkey (p : Psn) : NestedKey := .tup [.num p.tr, .tup (nms p.hs), .num (p.ld : Nat), .tup (nms p.tk)]
def PosAt (H : Hp) (b : Addr) (p : Psn) : Prop := ∃ h t, H b = some (.tup [.int p.tr, .ref h, .int (p.ld : Nat), .ref t]) ∧ H h = some (.tup (nts p.hs)) ∧ H t = some (.tup (nts p.tk))
theorem PosAt.mono {H H' : Hp} {b : Addr} {p : Psn} (t : TK H H') (h : PosAt H b p) : PosAt H' b p := let ⟨h1, t1, a, b1, c⟩ := h; ⟨h1, t1, t _ _ a, t _ _ b1, t _ _ c⟩
theorem nms_nv {H : Hp} : ∀ l : List Nat, NVs H (nts l) (nms l)
  | [] => .nil
  | n :: l => .cons (.int _) (nms_nv l)
theorem PosAt.nv {H : Hp} {b : Addr} {p : Psn} (h : PosAt H b p) : NV H (.ref b) (nkey p) := by
  obtain ⟨h1, t1, e, e1, e2⟩ := h
  exact .tup e (.cons (.int _) (.cons (.tup e1 (nms_nv _)) (.cons (.int _) (.cons (.tup e2 (nms_nv _)) .nil))))
theorem nms_inj : ∀ {a b : List Nat}, nms a = nms b → a = b
  | [], [], _ => rfl
  | [], _ :: _, h => by cases h
  | _ :: _, [], h => by cases h
  | x :: a, y :: b, h => by
    unfold nms at h
    rw [List.map_cons, List.map_cons] at h
    injection h with h1 h2
    injection h1 with h1
    rw [nms_inj (a := a) (b := b) h2]
    congr 1
    omega
theorem nkey_inj {p q : Psn} (h : nkey p = nkey q) : p = q := by
  unfold nkey at h
  injection h with h
  injection h with h1 h
  injection h with h2 h
  injection h with h3 h
  injection h with h4 _
  injection h1 with h1
  injection h2 with h2
  injection h3 with h3
  injection h4 with h4
  obtain ⟨a, b, c, d⟩ := p
  obtain ⟨a', b', c', d'⟩ := q
  have e2 := nms_inj h2
  have e4 := nms_inj h4
  have e3 : c = c' := by have : (c : Int) = (c' : Int) := h3; omega
  have e1 : a = a' := h1
  subst e1
  subst e3
  have e2' : b = b' := e2
  have e4' : d = d' := e4
  subst e2'
  subst e4'
  rfl
theorem nms_depth : ∀ l : List Nat, NestedKey.depthAll (nms l) ≤ 1
  | [] => Nat.zero_le _
  | n :: l => by
    show max (NestedKey.depth (.num (n : Nat))) (NestedKey.depthAll (nms l)) ≤ 1
    have := nms_depth l
    have e : NestedKey.depth (.num (n : Nat)) ≤ 1 := by unfold NestedKey.depth; omega
    omega
theorem nkey_depth (p : Psn) : (nkey p).depth ≤ 4 := by
  unfold nkey
  have h1 := nms_depth p.hs
  have h2 := nms_depth p.tk
  simp only [NestedKey.depth, NestedKey.depthAll]
  omega
theorem PosAt.key {H : Hp} {b : Addr} {p : Psn} (h : PosAt H b p) : KeyAt H (.ref b) b (nkey p) := ⟨rfl, h.nv, Nat.le_trans (nkey_depth p) (by decide)⟩
/-- a position and a goal -/
def gkey (p : Psn) (g : Int) : NestedKey := .tup [nkey p, .num g]
theorem gkey_inj {p q : Psn} {g h : Int} (e : gkey p g = gkey q h) : p = q ∧ g = h := by
  unfold gkey at e
  injection e with e
  injection e with e1 e
  injection e with e2 _
  injection e2 with e2
  exact ⟨nkey_inj e1, e2⟩
theorem gkey_depth (p : Psn) (g : Int) : (gkey p g).depth ≤ 8 := by
  have := nkey_depth p
  have e : NestedKey.depth (.num g) ≤ 1 := by unfold NestedKey.depth; omega
  unfold gkey
  simp only [NestedKey.depth, NestedKey.depthAll] at e ⊢
  omega
theorem gkey_at {H : Hp} {b c : Addr} {p : Psn} {g : Int} (h : PosAt H b p) (e : H c = some (.tup [.ref b, .int g])) : KeyAt H (.ref c) c (gkey p g) := ⟨rfl, .tup e (.cons h.nv (.cons (.int _) .nil)), gkey_depth p g⟩

/-! ### the play object -/
/-- the state of a play: the position, the tricks won, the history's entries -/
structure PS where
  p : Psn
  w0 : Int
  w1 : Int
  hist : List Addr
  bef : List Addr
def fsP (dk : Addr) (tr : Int) (ld : Nat) (hl ll wl il bl : Addr) : List (Str × V) := [("_deck", .ref dk), ("_trump", .int tr), ("_leader", .int (ld : Nat)), ("_hands", .ref hl), ("_led", .ref ll), ("_won", .ref wl), ("_history", .ref il), ("_before", .ref bl)]
/-- S suits, R ranks, n cards in the hands -/
structure Good (S R n : Nat) (s : PS) : Prop where
  s1 : 1 ≤ S
  s4 : S ≤ 4
  r1 : 1 ≤ R
  r13 : R ≤ 13
  wf : Wf n s.p
  h100 : s.hist.length + n ≤ 100
  b100 : s.bef.length + n ≤ 100
def Pl (C x dk : Addr) (Y : List Addr) (S R n : Nat) (H : Hp) (s : PS) : Prop := Good S R n s ∧ DeckAt H dk S R ∧ ∃ dx hl ll wl il bl, Y = [x, hl, ll, wl, il, bl] ∧ Y.Nodup ∧ H x = some (.ins C dx (fsP dk s.p.tr s.p.ld hl ll wl il bl)) ∧
  H hl = some (.lst (nts s.p.hs)) ∧ H ll = some (.lst (nts s.p.tk)) ∧ H wl = some (.lst [.int s.w0, .int s.w1]) ∧ H il = some (.lst (s.hist.map V.ref)) ∧ H bl = some (.lst (s.bef.map V.ref))
/-- what may stand at the places of a play -/
def PKind (o : HO) : Prop := (∃ xs, o = .lst xs) ∨ ∃ C dx v r, o = .ins C dx (("_deck", v) :: r)
theorem Pl.kinds {C x dk : Addr} {Y : List Addr} {S R n : Nat} {H : Hp} {s : PS} (h : Pl C x dk Y S R n H s) : ∀ y ∈ Y, ∃ o, H y = some o ∧ PKind o := by
  obtain ⟨_, _, dx, hl, ll, wl, il, bl, rfl, _, h1, h2, h3, h4, h5, h6⟩ := h
  intro y hy
  simp only [List.mem_cons, List.not_mem_nil, or_false] at hy
  rcases hy with rfl | rfl | rfl | rfl | rfl | rfl
  · exact ⟨_, h1, .inr ⟨_, _, _, _, rfl⟩⟩
  · exact ⟨_, h2, .inl ⟨_, rfl⟩⟩
  · exact ⟨_, h3, .inl ⟨_, rfl⟩⟩
  · exact ⟨_, h4, .inl ⟨_, rfl⟩⟩
  · exact ⟨_, h5, .inl ⟨_, rfl⟩⟩
  · exact ⟨_, h6, .inl ⟨_, rfl⟩⟩
theorem Pl.out {C x dk : Addr} {Y : List Addr} {S R n : Nat} {H : Hp} {s : PS} (h : Pl C x dk Y S R n H s) {a : Addr} {o : HO} (e : H a = some o) (k : ¬ PKind o) : a ∉ Y := fun z => by
  obtain ⟨o', e', k'⟩ := h.kinds a z
  rw [e] at e'
  cases e'
  exact k k'
theorem Pl.new {C x dk : Addr} {Y : List Addr} {S R n : Nat} {H : Hp} {s : PS} (h : Pl C x dk Y S R n H s) {a : Addr} (e : H a = none) : a ∉ Y := fun z => by
  obtain ⟨o', e', k'⟩ := h.kinds a z
  rw [e] at e'
  cases e'
theorem not_imm_lst {xs : List V} : ¬ Imm (.lst xs) := id
theorem not_imm_ins {C dx : Addr} {fs : List (Str × V)} : ¬ Imm (.ins C dx fs) := id
theorem Pl.kp {C x dk : Addr} {Y Z : List Addr} {S R n : Nat} {H H' : Hp} {s : PS} (h : Pl C x dk Y S R n H s) (k : Kp Z H H') (d : ∀ y ∈ Y, y ∉ Z) : Pl C x dk Y S R n H' s := by
  obtain ⟨g, e, dx, hl, ll, wl, il, bl, rfl, nd, h1, h2, h3, h4, h5, h6⟩ := h
  exact ⟨g, k _ _ e (.inr trivial), dx, hl, ll, wl, il, bl, rfl, nd, k _ _ h1 (.inl (d _ (by simp))), k _ _ h2 (.inl (d _ (by simp))), k _ _ h3 (.inl (d _ (by simp))), k _ _ h4 (.inl (d _ (by simp))), k _ _ h5 (.inl (d _ (by simp))), k _ _ h6 (.inl (d _ (by simp)))⟩
theorem Pl.same {C x dk : Addr} {Y : List Addr} {S R n : Nat} {H H' : Hp} {s : PS} (h : Pl C x dk Y S R n H s) (k : Same H H') : Pl C x dk Y S R n H' s := h.kp (Z := []) (Kp.same k) (by simp)
/-- Y may have changed, Y' is what now may change -/
def Mut (Y Y' : List Addr) (H H' : Hp) : Prop := Kp Y H H' ∧ ∀ y ∈ Y', y ∈ Y ∨ H y = none
theorem Mut.refl (Y : List Addr) (H : Hp) : Mut Y Y H H := ⟨Kp.refl Y H, fun _ h => .inl h⟩
theorem Mut.same {Y : List Addr} {H H' : Hp} (h : Same H H') : Mut Y Y H H' := ⟨Kp.same h, fun _ h => .inl h⟩
theorem Mut.back {Y Y' : List Addr} {H H' : Hp} (a : Mut Y Y' H H') {y : Addr} (h : H' y = none) : y ∈ Y ∨ H y = none := by
  by_cases q : y ∈ Y
  · exact .inl q
  · exact .inr (a.1.free h q)
theorem Mut.trans {Y Y1 Y2 : List Addr} {H H1 H2 : Hp} (a : Mut Y Y1 H H1) (b : Mut Y1 Y2 H1 H2) : Mut Y Y2 H H2 := ⟨a.1.trans b.1 a.2, fun y hy => by
  rcases b.2 y hy with q | q
  · exact a.2 y q
  · exact a.back q⟩
theorem Mut.more {Y Y' Z : List Addr} {H H' : Hp} (a : Mut Y Y' H H') : Mut (Z ++ Y) (Z ++ Y') H H' := ⟨a.1.mono fun y h => .inl (List.mem_append_right _ h), fun y h => by
  rcases List.mem_append.mp h with q | q
  · exact .inl (List.mem_append_left _ q)
  · rcases a.2 y q with q | q
    · exact .inl (List.mem_append_right _ q)
    · exact .inr q⟩
theorem Mut.out {Y Y' : List Addr} {H H' : Hp} (a : Mut Y Y' H H') {y : Addr} {o : HO} (e : H y = some o) (n : y ∉ Y) : y ∉ Y' := fun z => by
  rcases a.2 y z with q | q
  · exact n q
  · rw [e] at q; cases q

/-- what the class must say of its instances' attributes -/
structure PlC (K : PySem.W.Frag) (C : Addr) : Prop where
  cls : Cls K C
  n1 : NoAttr K C "_deck"
  n2 : NoAttr K C "_trump"
  n3 : NoAttr K C "_leader"
  n4 : NoAttr K C "_hands"
  n5 : NoAttr K C "_led"
  n6 : NoAttr K C "_won"
  n7 : NoAttr K C "_history"
  n8 : NoAttr K C "_before"
def wn (s : PS) (side : Nat) : Int := if side = 0 then s.w0 else s.w1
def putS (R : Nat) (s : PS) (c : Nat) (a b : Addr) : PS := ⟨nxt R s.p c, s.w0 + gain R 0 s.p c, s.w1 + gain R 1 s.p c, s.hist ++ [a], s.bef ++ [b]⟩
theorem wn_put {R : Nat} {s : PS} {c side : Nat} {a b : Addr} (h : side < 2) : wn (putS R s c a b) side = wn s side + gain R side s.p c := by
  have : side = 0 ∨ side = 1 := by omega
  rcases this with e | e <;> subst e <;> rfl
/-- what take_back reads -/
def Undo (H : Hp) (s : PS) (c : Nat) (a b : Addr) : Prop := H a = some (.tup [.int (mover s.p : Nat), .int (c : Nat)]) ∧
  ∃ lt wt, H b = some (.tup [.int (s.p.ld : Nat), .ref lt, .ref wt]) ∧ H lt = some (.tup (nts s.p.tk)) ∧ H wt = some (.tup [.int s.w0, .int s.w1])
theorem Undo.mono {H H' : Hp} {s : PS} {c : Nat} {a b : Addr} (t : TK H H') (u : Undo H s c a b) : Undo H' s c a b := let ⟨h, l, w, h1, h2, h3⟩ := u; ⟨t _ _ h, l, w, t _ _ h1, t _ _ h2, t _ _ h3⟩

/-! ### promises -/
def spBegin (C : Addr) : Sp := fun vs H Q _ => ∃ (x dx dk b : Addr) (S R n : Nat) (p : Psn), vs = [.ref x, .ref dk, .ref b] ∧ H x = some (.ins C dx []) ∧ DeckAt H dk S R ∧ PosAt H b p ∧ Good S R n ⟨p, 0, 0, [], []⟩ ∧
  ∀ H' Y, Mut [x] Y H H' → Pl C x dk Y S R n H' ⟨p, 0, 0, [], []⟩ → Q .non H'
def spDeck (C : Addr) : Sp := fun vs H Q _ => ∃ (x dk : Addr) (Y : List Addr) (S R n : Nat) (s : PS), vs = [.ref x] ∧ Pl C x dk Y S R n H s ∧ Q (.ref dk) H
def spOver (C : Addr) : Sp := fun vs H Q _ => ∃ (x dk : Addr) (Y : List Addr) (S R n : Nat) (s : PS), vs = [.ref x] ∧ Pl C x dk Y S R n H s ∧ Ret H (.bl (decide (n = 0))) Q
def spMover (C : Addr) : Sp := fun vs H Q _ => ∃ (x dk : Addr) (Y : List Addr) (S R n : Nat) (s : PS), vs = [.ref x] ∧ Pl C x dk Y S R n H s ∧ Q (.int (mover s.p : Nat)) H
def spTurn (C : Addr) : Sp := fun vs H Q _ => ∃ (x dk : Addr) (Y : List Addr) (S R n : Nat) (s : PS), vs = [.ref x] ∧ Pl C x dk Y S R (n + 1) H s ∧ Ret H (.int (mover s.p : Nat)) Q
def spLegal (C : Addr) : Sp := fun vs H Q _ => ∃ (x dk : Addr) (Y : List Addr) (S R n : Nat) (s : PS), vs = [.ref x] ∧ Pl C x dk Y S R n H s ∧ NewL H (nts (legal R s.p)) Q
def spTricks (C : Addr) : Sp := fun vs H Q _ => ∃ (x dk : Addr) (Y : List Addr) (S R n : Nat) (s : PS) (side : Nat), vs = [.ref x, .int (side : Nat)] ∧ Pl C x dk Y S R n H s ∧ side < 2 ∧ Q (.int (wn s side)) H
def spLeft (C : Addr) : Sp := fun vs H Q _ => ∃ (x dk : Addr) (Y : List Addr) (S R n : Nat) (s : PS), vs = [.ref x] ∧ Pl C x dk Y S R n H s ∧ Ret H (.int (left s.p : Nat)) Q
def spPosition (C : Addr) : Sp := fun vs H Q _ => ∃ (x dk : Addr) (Y : List Addr) (S R n : Nat) (s : PS), vs = [.ref x] ∧ Pl C x dk Y S R n H s ∧ ∀ b H', Same H H' → H b = none → PosAt H' b s.p → Q (.ref b) H'
def spPut (C : Addr) : Sp := fun vs H Q _ => ∃ (x dk : Addr) (Y : List Addr) (S R n : Nat) (s : PS) (c : Nat), vs = [.ref x, .int (c : Nat)] ∧ Pl C x dk Y S R (n + 1) H s ∧ c ∈ legal R s.p ∧
  ∀ H' Y' a b, Mut Y Y' H H' → Pl C x dk Y' S R n H' (putS R s c a b) → Undo H' s c a b → Q .non H'
def spTake (C : Addr) : Sp := fun vs H Q _ => ∃ (x dk : Addr) (Y : List Addr) (S R n : Nat) (s : PS) (c : Nat) (a b : Addr), vs = [.ref x] ∧ Pl C x dk Y S R n H (putS R s c a b) ∧ Good S R (n + 1) s ∧ c ∈ legal R s.p ∧ Undo H s c a b ∧
  ∀ H' Y', Mut Y Y' H H' → Pl C x dk Y' S R (n + 1) H' s → Q .non H'
end Fi
/-! the methods of a play that only read -/
namespace Fi
open PySem PySem.Spec PyProof.Rows L2
theorem eqv_nts4 (a b c d : Nat) : PyData.eqv (.list [.int (a : Nat), .int (b : Nat), .int (c : Nat), .int (d : Nat)]) (.list [.int 0, .int 0, .int 0, .int 0]) = decide ([a, b, c, d] = [0, 0, 0, 0]) := by
  rw [Bool.eq_iff_iff]
  simp [PyData.eqv, PyData.eqvAll]
theorem dp4 {K : PySem.W.Frag} {H : Hp} (a b c d : Int) : DpAll K H [.int a, .int b, .int c, .int d] [.int a, .int b, .int c, .int d] := .cons (.int _) (.cons (.int _) (.cons (.int _) (.cons (.int _) .nil)))
section
variable {P : Program} {w : World} {K : PySem.W.Frag} {mg : Str → Option Value} {base : Heap} {C : Addr}
theorem sc_Play_deck : FnScope ["self"] ["self"] (defScope (inClass (top 22) 2)) := ⟨rfl, rfl, rfl, by decide +kernel, rfl, by decide +kernel, by decide +kernel⟩
theorem ok_Play_deck (E : EntM K C "deck" "Play.deck" (inClass (top 22) 2)) (pc : PlC K C) : Mt P w K mg base C 1 "deck" ["self"] (spDeck C) := by
  refine mt_mk E sc_Play_deck (fun _ _ _ _ _ _ us hl => match us, hl with | [_], _ => rfl) (fun vs H Q E h => ?_) (fun f cdv A outer s H vs Q E hr h => ?_)
  · obtain ⟨x, dk, Y, S, R, n, s, rfl, _⟩ := h; rfl
  · obtain ⟨x, dk, Y, S, R, n, st, rfl, ⟨g, hd, dx, hl, ll, wl, il, bl, rfl, nd, h1, h2, h3, h4, h5, h6⟩, q⟩ := h
    refine ⟨_, (pss_one (ps_ret (pe_fld (pv 0) rfl))), ?_⟩
    exact ⟨_, rfl, x, C, _, _, _, rfl, h1, pc.cls, pc.n1, rfl, q⟩
theorem sc_Play_is_over : FnScope ["self"] ["self"] (defScope (inClass (top 22) 7)) := ⟨rfl, rfl, rfl, by decide +kernel, rfl, by decide +kernel, by decide +kernel⟩
theorem ok_Play_is_over (E : EntM K C "is_over" "Play.is_over" (inClass (top 22) 7)) (pc : PlC K C) : Mt P w K mg base C 1 "is_over" ["self"] (spOver C) := by
  refine mt_mk E sc_Play_is_over (fun _ _ _ _ _ _ us hl => match us, hl with | [_], _ => rfl) (fun vs H Q E h => ?_) (fun f cdv A outer s H vs Q E hr h => ?_)
  · obtain ⟨x, dk, Y, S, R, n, s, rfl, _⟩ := h; rfl
  · obtain ⟨x, dk, Y, S, R, n, st, rfl, ⟨g, hd, dx, hl, ll, wl, il, bl, rfl, nd, h1, h2, h3, h4, h5, h6⟩, q⟩ := h
    refine ⟨_, (pss_one (ps_ret (pe_cmpR (op_eqD hr.units) (pe_fld (pv 0) rfl) (pe_lst (pa_cons pe_int (pa_cons pe_int (pa_cons pe_int (pa_cons pe_int pa_nil))))) (nomark _)))), ?_⟩
    obtain ⟨a, b, c, d, e4⟩ := g.wf.four
    rw [e4] at h2
    refine ⟨_, rfl, x, C, _, _, _, rfl, h1, pc.cls, pc.n4, rfl, (by decide), fun p hp => ?_⟩
    have sm : Same H (upd H p (.lst [.int 0, .int 0, .int 0, .int 0])) := Fi.Same.upd_new (Same.refl H) hp
    refine ⟨_, _, .lst (SqL.of (sm _ _ h2)) (dp4 _ _ _ _), .lst (SqL.of upd_same) (dp4 _ _ _ _), rfl, rfl, ?_⟩
    rw [eqv_nts4]
    have e : decide ([a, b, c, d] = [0, 0, 0, 0]) = decide (n = 0) := by
      have := g.wf.over_iff
      unfold over at this
      rw [e4, decide_eq_true_iff] at this
      exact decide_eq_decide.mpr this
    rw [e]
    exact q _ sm
theorem sc_Play_mover : FnScope ["self"] ["self"] (defScope (inClass (top 22) 8)) := ⟨rfl, rfl, rfl, by decide +kernel, rfl, by decide +kernel, by decide +kernel⟩
theorem ok_Play_mover (E : EntM K C "mover" "Play.mover" (inClass (top 22) 8)) (pc : PlC K C) (T : Txt K mg) : Mt P w K mg base C 1 "mover" ["self"] (spMover C) := by
  refine mt_mk E sc_Play_mover (fun _ _ _ _ _ _ us hl => match us, hl with | [_], _ => rfl) (fun vs H Q E h => ?_) (fun f cdv A outer s H vs Q E hr h => ?_)
  · obtain ⟨x, dk, Y, S, R, n, s, rfl, _⟩ := h; rfl
  · obtain ⟨x, dk, Y, S, R, n, st, rfl, ⟨g, hd, dx, hl, ll, wl, il, bl, rfl, nd, h1, h2, h3, h4, h5, h6⟩, q⟩ := h
    refine ⟨_, (pss_one (ps_ret (pe_op op_mod (pe_op op_add (pe_fld (pv 0) rfl) (pe_callB call_len_seq rfl T.f_len PySem.boot_len (pa_cons (pe_fld (pv 0) rfl) pa_nil))) pe_int))), ?_⟩
    refine ⟨_, rfl, x, C, _, _, _, rfl, h1, pc.cls, pc.n3, rfl, _, rfl, x, C, _, _, _, rfl, h1, pc.cls, pc.n5, rfl, ll, _, rfl, .inl (SqL.of h3), _, _, rfl, rfl, _, _, rfl, rfl, by show (0 : Int) < 4; decide, ?_⟩
    have e : (((st.p.ld : Nat) : Int) + ((nts st.p.tk).length : Int)) % 4 = ((mover st.p : Nat) : Int) := by
      rw [nts_len]; unfold mover; omega
    have q' := q
    rw [← e] at q'
    exact q'
theorem sc_Play_turn : FnScope ["self"] ["self"] (defScope (inClass (top 22) 9)) := ⟨rfl, rfl, rfl, by decide +kernel, rfl, by decide +kernel, by decide +kernel⟩
theorem ok_Play_turn (E : EntM K C "turn" "Play.turn" (inClass (top 22) 9)) (pc : PlC K C) (M_is_over : ∀ base, Mt P w K mg base C 1 "is_over" ["self"] (spOver C)) (M_mover : ∀ base, Mt P w K mg base C 1 "mover" ["self"] (spMover C)) :
    Mt P w K mg base C 2 "turn" ["self"] (spTurn C) := by
  refine mt_mk E sc_Play_turn (fun _ _ _ _ _ _ us hl => match us, hl with | [_], _ => rfl) (fun vs H Q E h => ?_) (fun f cdv A outer s H vs Q E hr h => ?_)
  · obtain ⟨x, dk, Y, S, R, n, s, rfl, _⟩ := h; rfl
  · obtain ⟨x, dk, Y, S, R, n, st, rfl, pl, q⟩ := h
    obtain ⟨g, hd, dx, hl, ll, wl, il, bl, rfl, nd, h1, h2, h3, h4, h5, h6⟩ := id pl
    refine ⟨_, (pss_cons (ps_if (pt_val (pe_md0 (pv 0) pc.cls (M_is_over _) hr)) (pss_one ps_never) pss_nil)
      (pss_one (ps_ret (pe_md0 (pv 0) pc.cls (M_mover _) hr)))), ?_⟩
    refine ⟨_, rfl, x, _, _, rfl, h1, rfl, x, dk, _, S, R, _, st, rfl, pl, fun H' sm => ?_⟩
    refine ⟨false, rfl, iteF ?_⟩
    exact ⟨_, rfl, x, _, _, rfl, sm _ _ h1, rfl, x, dk, _, S, R, _, st, rfl, pl.same sm, q _ sm⟩
theorem sc_Play_legal : FnScope ["self", "hand", "same"] ["self"] (defScope (inClass (top 22) 10)) := ⟨rfl, rfl, rfl, by decide +kernel, rfl, by decide +kernel, by decide +kernel⟩
theorem ok_Play_legal (E : EntM K C "legal" "Play.legal" (inClass (top 22) 10)) (pc : PlC K C) (T : Txt K mg) (M_mover : ∀ base, Mt P w K mg base C 1 "mover" ["self"] (spMover C))
    (D_suit_of : ∀ base, Df P w K mg base 1 "suit_of" ["deck", "card"] spSuitOf) (D_of_suit : ∀ base, Df P w K mg base 1 "of_suit" ["deck", "mask", "suit"] spOfSuit) (D_cards_of : ∀ base, Df P w K mg base 1 "cards_of" ["mask"] spCardsOf) :
    Mt P w K mg base C 2 "legal" ["self"] (spLegal C) := by
  refine mt_mk E sc_Play_legal (fun _ _ _ _ _ _ us hl => match us, hl with | [_], _ => rfl) (fun vs H Q E h => ?_) (fun f cdv A outer s H vs Q E hr h => ?_)
  · obtain ⟨x, dk, Y, S, R, n, s, rfl, _⟩ := h; rfl
  · obtain ⟨x, dk, Y, S, R, n, st, rfl, pl, q⟩ := h
    obtain ⟨g, hd, dx, hl, ll, wl, il, bl, rfl, nd, h1, h2, h3, h4, h5, h6⟩ := id pl
    refine ⟨_, (pss_cons (ps_set (i := 1) sc_Play_legal.nd rfl (Or.inl rfl) (pe_ix ix_list (pe_fld (pv 0) rfl) (pe_md0 (pv 0) pc.cls (M_mover _) hr) (fun _ _ => rfl)))
      (pss_cons (ps_if (pt_cmpR op_gt (pe_callB call_len_seq rfl T.f_len PySem.boot_len (pa_cons (pe_fld (pv 0) rfl) pa_nil)) pe_int (nomark _)) (pss_cons (ps_set (i := 2) sc_Play_legal.nd rfl (Or.inl rfl) (pe_cd (D_of_suit _) hr rfl (pa_cons (pe_fld (pv 0) rfl) (pa_cons (pv 1) (pa_cons (pe_cd (D_suit_of _) hr rfl (pa_cons (pe_fld (pv 0) rfl) (pa_cons (pe_ix ix_list (pe_fld (pv 0) rfl) pe_int (fun _ _ => rfl)) pa_nil))) pa_nil)))))
      (pss_one (ps_ret (pe_cd (D_cards_of _) hr rfl (pa_cons (pe_ifExp (pt_cmpR op_ne (pv 2) pe_int (nomark _)) (pv 2) (pv 1)) pa_nil))))) pss_nil)
      (pss_one (ps_ret (pe_cd (D_cards_of _) hr rfl (pa_cons (pv 1) pa_nil)))))), ?_⟩
    have hm := g.wf.mv
    have hlen := g.wf.len
    have hh : st.p.hs[mover st.p]? = some (hand st.p) := getD_at (by rw [hlen]; exact hm)
    have hb : hand st.p < 2 ^ 16 := g.wf.big _ (getD_mem (by rw [hlen]; exact hm))
    refine ⟨_, rfl, x, C, _, _, _, rfl, h1, pc.cls, pc.n4, rfl, _, rfl, x, _, _, rfl, h1, rfl, x, dk, _, S, R, _, st, rfl, pl, hl, _, _, _, rfl, rfl, SqL.of h2, at_of rfl (nts_at hh), ?_⟩
    refine ⟨_, rfl, x, C, _, _, _, rfl, h1, pc.cls, pc.n5, rfl, ll, _, rfl, .inl (SqL.of h3), _, _, rfl, rfl, decide (0 < st.p.tk.length), ?_, ?_⟩
    · rw [nts_len]
      exact congrArg V.bl (decide_eq_decide.mpr (by omega))
    · refine ite2 (fun ht => ?_) fun ht => ?_
      · have ht := of_decide_eq_true ht
        match etk : st.p.tk, ht with
        | c0 :: rest, _ =>
        have c16 : c0 < 16 := g.wf.tkb c0 (by rw [etk]; exact List.mem_cons_self ..)
        have r1 := g.r1
        have r13 := g.r13
        rw [etk] at h3
        have hs1 : c0 / R ≤ 1000 := Nat.le_trans (Nat.div_le_self _ _) (by omega)
        refine ⟨_, rfl, x, C, _, _, _, rfl, h1, pc.cls, pc.n1, rfl, _, rfl, _, rfl, x, C, _, _, _, rfl, h1, pc.cls, pc.n1, rfl, _, rfl, x, C, _, _, _, rfl, h1, pc.cls, pc.n5, rfl, ll, _, _, _, rfl, rfl, SqL.of h3, at_of (j := 0) rfl rfl, ?_⟩
        refine ⟨dk, S, R, c0, rfl, hd, by omega, r13, dk, S, R, hand st.p, c0 / R, rfl, hd, r13, hs1, ?_⟩
        refine ⟨_, rfl, rfl, decide (ofSuit R (hand st.p) (c0 / R) ≠ 0), ?_, ?_⟩
        · by_cases z : ofSuit R (hand st.p) (c0 / R) = 0
          · rw [z]; rfl
          · rw [decide_eq_true z]; exact b_neT (by omega)
        have el : legal R st.p = if ofSuit R (hand st.p) (c0 / R) ≠ 0 then cardsOf (ofSuit R (hand st.p) (c0 / R)) else cardsOf (hand st.p) := by
          unfold legal; rw [etk]
        refine ite2 (fun z => ?_) fun z => ?_
        · have z := of_decide_eq_true z
          refine ⟨_, rfl, ofSuit R (hand st.p) (c0 / R), rfl, Nat.lt_of_le_of_lt Nat.and_le_left hb, ?_⟩
          rw [if_pos z] at el
          rw [← el]
          exact q
        · rw [if_neg (fun y => z (decide_eq_true y))] at el
          refine ⟨_, rfl, hand st.p, rfl, hb, ?_⟩
          rw [← el]
          exact q
      · have etk : st.p.tk = [] := List.eq_nil_of_length_eq_zero (by
          have : ¬ 0 < st.p.tk.length := fun z => ht (decide_eq_true z)
          omega)
        have el : legal R st.p = cardsOf (hand st.p) := by
          unfold legal; rw [etk]
        refine ⟨_, rfl, hand st.p, rfl, hb, ?_⟩
        rw [← el]
        exact q
theorem sc_Play_tricks : FnScope ["self", "side"] ["self", "side"] (defScope (inClass (top 22) 14)) := ⟨rfl, rfl, rfl, by decide +kernel, rfl, by decide +kernel, by decide +kernel⟩
theorem ok_Play_tricks (E : EntM K C "tricks" "Play.tricks" (inClass (top 22) 14)) (pc : PlC K C) : Mt P w K mg base C 1 "tricks" ["self", "side"] (spTricks C) := by
  refine mt_mk E sc_Play_tricks (fun _ _ _ _ _ _ us hl => match us, hl with | [_, _], _ => rfl) (fun vs H Q E h => ?_) (fun f cdv A outer s H vs Q E hr h => ?_)
  · obtain ⟨x, dk, Y, S, R, n, s, side, rfl, _⟩ := h; rfl
  · obtain ⟨x, dk, Y, S, R, n, st, side, rfl, ⟨g, hd, dx, hl, ll, wl, il, bl, rfl, nd, h1, h2, h3, h4, h5, h6⟩, hs, q⟩ := h
    refine ⟨_, (pss_one (ps_ret (pe_ix ix_list (pe_fld (pv 0) rfl) (pv 1) (fun _ _ => rfl)))), ?_⟩
    refine ⟨_, rfl, x, C, _, _, _, rfl, h1, pc.cls, pc.n6, rfl, _, rfl, wl, _, _, _, rfl, rfl, SqL.of h4, at_of (j := side) (v := .int (wn st side)) rfl ?_, q⟩
    have : side = 0 ∨ side = 1 := by omega
    rcases this with e | e <;> subst e <;> rfl
theorem sc_Play_left : FnScope ["self", "last"] ["self"] (defScope (inClass (top 22) 15)) := ⟨rfl, rfl, rfl, by decide +kernel, rfl, by decide +kernel, by decide +kernel⟩
theorem ok_Play_left (E : EntM K C "left" "Play.left" (inClass (top 22) 15)) (pc : PlC K C) (T : Txt K mg) (D_cards_of : ∀ base, Df P w K mg base 1 "cards_of" ["mask"] spCardsOf) : Mt P w K mg base C 2 "left" ["self"] (spLeft C) := by
  refine mt_mk E sc_Play_left (fun _ _ _ _ _ _ us hl => match us, hl with | [_], _ => rfl) (fun vs H Q E h => ?_) (fun f cdv A outer s H vs Q E hr h => ?_)
  · obtain ⟨x, dk, Y, S, R, n, s, rfl, _⟩ := h; rfl
  · obtain ⟨x, dk, Y, S, R, n, st, rfl, ⟨g, hd, dx, hl, ll, wl, il, bl, rfl, nd, h1, h2, h3, h4, h5, h6⟩, q⟩ := h
    refine ⟨_, (pss_cons (ps_set (i := 1) sc_Play_left.nd rfl (Or.inl rfl) (pe_op op_mod (pe_op op_add (pe_fld (pv 0) rfl) pe_int) pe_int))
      (pss_one (ps_ret (pe_callB call_len_seq rfl T.f_len PySem.boot_len (pa_cons (pe_cd (D_cards_of _) hr rfl (pa_cons (pe_ix ix_list (pe_fld (pv 0) rfl) (pv 1) (fun _ _ => rfl)) pa_nil)) pa_nil))))), ?_⟩
    refine ⟨_, rfl, x, C, _, _, _, rfl, h1, pc.cls, pc.n3, rfl, _, _, rfl, rfl, _, _, rfl, rfl, by show (0 : Int) < 4; decide, ?_⟩
    have hlen := g.wf.len
    have hlt : (st.p.ld + 3) % 4 < st.p.hs.length := by rw [hlen]; exact Nat.mod_lt _ (by decide)
    refine ⟨_, rfl, x, C, _, _, _, rfl, h1, pc.cls, pc.n4, rfl, _, rfl, hl, _, _, _, rfl, rfl, SqL.of h2, at_of (j := (st.p.ld + 3) % 4) (by show (((st.p.ld : Nat) : Int) + 3) % 4 = _; omega) (nts_at (getD_at hlt)), ?_⟩
    refine ⟨_, rfl, g.wf.big _ (getD_mem hlt), fun p H' sm hp he => ?_⟩
    refine ⟨p, _, rfl, .inl (SqL.of he), ?_⟩
    rw [nts_len]
    exact q _ sm
theorem sc_Play_position : FnScope ["self"] ["self"] (defScope (inClass (top 22) 16)) := ⟨rfl, rfl, rfl, by decide +kernel, rfl, by decide +kernel, by decide +kernel⟩
theorem ok_Play_position (E : EntM K C "position" "Play.position" (inClass (top 22) 16)) (pc : PlC K C) (T : Txt K mg) : Mt P w K mg base C 1 "position" ["self"] (spPosition C) := by
  refine mt_mk E sc_Play_position (fun _ _ _ _ _ _ us hl => match us, hl with | [_], _ => rfl) (fun vs H Q E h => ?_) (fun f cdv A outer s H vs Q E hr h => ?_)
  · obtain ⟨x, dk, Y, S, R, n, s, rfl, _⟩ := h; rfl
  · obtain ⟨x, dk, Y, S, R, n, st, rfl, ⟨g, hd, dx, hl, ll, wl, il, bl, rfl, nd, h1, h2, h3, h4, h5, h6⟩, q⟩ := h
    refine ⟨_, (pss_one (ps_ret (pe_tup (pa_cons (pe_fld (pv 0) rfl) (pa_cons (pe_callTy call_tuple_of rfl T.f_tuple (by decide +kernel) (pa_cons (pe_fld (pv 0) rfl) pa_nil)) (pa_cons (pe_fld (pv 0) rfl) (pa_cons (pe_callTy call_tuple_of rfl T.f_tuple (by decide +kernel) (pa_cons (pe_fld (pv 0) rfl) pa_nil)) pa_nil))))))), ?_⟩
    refine ⟨_, rfl, x, C, _, _, _, rfl, h1, pc.cls, pc.n2, rfl, _, rfl, x, C, _, _, _, rfl, h1, pc.cls, pc.n4, rfl, hl, _, rfl, .inl ⟨SqL.of h2, fun t hT => ?_⟩⟩
    have s1 : Same H (upd H t (.tup (nts st.p.hs))) := Fi.Same.upd_new (Same.refl H) hT
    have e1 : upd H t (.tup (nts st.p.hs)) t = some (.tup (nts st.p.hs)) := upd_same
    generalize upd H t (.tup (nts st.p.hs)) = H1 at *
    refine ⟨_, rfl, x, C, _, _, _, rfl, s1 _ _ h1, pc.cls, pc.n3, rfl, _, rfl, x, C, _, _, _, rfl, s1 _ _ h1, pc.cls, pc.n5, rfl, ll, _, rfl, .inl ⟨SqL.of (s1 _ _ h3), fun u hU => ?_⟩⟩
    have s2 : Same H1 (upd H1 u (.tup (nts st.p.tk))) := Fi.Same.upd_new (Same.refl H1) hU
    have e2 : upd H1 u (.tup (nts st.p.tk)) u = some (.tup (nts st.p.tk)) := upd_same
    generalize upd H1 u (.tup (nts st.p.tk)) = H2 at *
    refine ⟨by show (4 : Nat) ≤ sizeLine; decide, fun b hb => ?_⟩
    have s3 := Fi.Same.upd_new (Same.refl H2) hb (o := .tup [.int st.p.tr, .ref t, .int (st.p.ld : Nat), .ref u])
    refine q b _ (s1.trans (s2.trans s3)) ?_ ⟨t, u, upd_same, s3 _ _ (s2 _ _ e1), s3 _ _ e2⟩
    cases z : H b with
    | none => rfl
    | some o => have := s2 _ _ (s1 _ _ z); rw [hb] at this; cases this
end
end Fi
/-! the methods of a play that change it -/
namespace Fi
open PySem PySem.Spec PyProof.Rows L2
/-- the play object's places while a method works -/
structure Raw (Y0 : List Addr) (H0 : Hp) (C dx x hl ll wl il bl : Addr) (fs : List (Str × V)) (hs tk won hist bef : List V) (H : Hp) : Prop where
  nd : [x, hl, ll, wl, il, bl].Nodup
  m : Mut Y0 [x, hl, ll, wl, il, bl] H0 H
  hx : H x = some (.ins C dx fs)
  hhl : H hl = some (.lst hs)
  hll : H ll = some (.lst tk)
  hwl : H wl = some (.lst won)
  hil : H il = some (.lst hist)
  hbl : H bl = some (.lst bef)
section
variable {Y0 : List Addr} {H0 H H' : Hp} {C dx x hl ll wl il bl : Addr} {fs : List (Str × V)} {hs tk won hist bef : List V}
theorem Raw.same (r : Raw Y0 H0 C dx x hl ll wl il bl fs hs tk won hist bef H) (sm : Same H H') : Raw Y0 H0 C dx x hl ll wl il bl fs hs tk won hist bef H' :=
  ⟨r.nd, r.m.trans (.same sm), sm _ _ r.hx, sm _ _ r.hhl, sm _ _ r.hll, sm _ _ r.hwl, sm _ _ r.hil, sm _ _ r.hbl⟩
theorem Raw.new (r : Raw Y0 H0 C dx x hl ll wl il bl fs hs tk won hist bef H) {t : Addr} {o : HO} (e : H t = none) : Raw Y0 H0 C dx x hl ll wl il bl fs hs tk won hist bef (upd H t o) := r.same (Fi.Same.upd_new (Same.refl H) e)
theorem Raw.rebase (r : Raw Y0 H0 C dx x hl ll wl il bl fs hs tk won hist bef H) : Raw [x, hl, ll, wl, il, bl] H C dx x hl ll wl il bl fs hs tk won hist bef H := ⟨r.nd, .refl _ _, r.hx, r.hhl, r.hll, r.hwl, r.hil, r.hbl⟩
theorem Raw.at (r : Raw Y0 H0 C dx x hl ll wl il bl fs hs tk won hist bef H) {a : Addr} {o o' : HO} (e : H a = some o) (ni : ¬ Imm o) (ha : a ∈ [x, hl, ll, wl, il, bl]) : Mut Y0 [x, hl, ll, wl, il, bl] H0 (upd H a o') :=
  ⟨r.m.1.chg e ni (r.m.2 a ha), r.m.2⟩
theorem nd6 (nd : [x, hl, ll, wl, il, bl].Nodup) : (x ≠ hl ∧ x ≠ ll ∧ x ≠ wl ∧ x ≠ il ∧ x ≠ bl) ∧ (hl ≠ ll ∧ hl ≠ wl ∧ hl ≠ il ∧ hl ≠ bl) ∧ (ll ≠ wl ∧ ll ≠ il ∧ ll ≠ bl) ∧ (wl ≠ il ∧ wl ≠ bl) ∧ il ≠ bl := by
  simpa [List.nodup_cons, not_or, and_assoc] using nd
theorem Raw.sx (r : Raw Y0 H0 C dx x hl ll wl il bl fs hs tk won hist bef H) {fs' : List (Str × V)} : Raw Y0 H0 C dx x hl ll wl il bl fs' hs tk won hist bef (upd H x (.ins C dx fs')) := by
  obtain ⟨⟨a1, a2, a3, a4, a5⟩, ⟨b1, b2, b3, b4⟩, ⟨c1, c2, c3⟩, ⟨d1, d2⟩, e1⟩ := nd6 r.nd
  exact ⟨r.nd, r.at r.hx not_imm_ins (by simp), upd_same, (upd_ne a1.symm).trans r.hhl, (upd_ne a2.symm).trans r.hll, (upd_ne a3.symm).trans r.hwl, (upd_ne a4.symm).trans r.hil, (upd_ne a5.symm).trans r.hbl⟩
theorem Raw.shl (r : Raw Y0 H0 C dx x hl ll wl il bl fs hs tk won hist bef H) {xs : List V} : Raw Y0 H0 C dx x hl ll wl il bl fs xs tk won hist bef (upd H hl (.lst xs)) := by
  obtain ⟨⟨a1, a2, a3, a4, a5⟩, ⟨b1, b2, b3, b4⟩, ⟨c1, c2, c3⟩, ⟨d1, d2⟩, e1⟩ := nd6 r.nd
  exact ⟨r.nd, r.at r.hhl not_imm_lst (by simp), (upd_ne a1).trans r.hx, upd_same, (upd_ne b1.symm).trans r.hll, (upd_ne b2.symm).trans r.hwl, (upd_ne b3.symm).trans r.hil, (upd_ne b4.symm).trans r.hbl⟩
theorem Raw.sll (r : Raw Y0 H0 C dx x hl ll wl il bl fs hs tk won hist bef H) {xs : List V} : Raw Y0 H0 C dx x hl ll wl il bl fs hs xs won hist bef (upd H ll (.lst xs)) := by
  obtain ⟨⟨a1, a2, a3, a4, a5⟩, ⟨b1, b2, b3, b4⟩, ⟨c1, c2, c3⟩, ⟨d1, d2⟩, e1⟩ := nd6 r.nd
  exact ⟨r.nd, r.at r.hll not_imm_lst (by simp), (upd_ne a2).trans r.hx, (upd_ne b1).trans r.hhl, upd_same, (upd_ne c1.symm).trans r.hwl, (upd_ne c2.symm).trans r.hil, (upd_ne c3.symm).trans r.hbl⟩
theorem Raw.swl (r : Raw Y0 H0 C dx x hl ll wl il bl fs hs tk won hist bef H) {xs : List V} : Raw Y0 H0 C dx x hl ll wl il bl fs hs tk xs hist bef (upd H wl (.lst xs)) := by
  obtain ⟨⟨a1, a2, a3, a4, a5⟩, ⟨b1, b2, b3, b4⟩, ⟨c1, c2, c3⟩, ⟨d1, d2⟩, e1⟩ := nd6 r.nd
  exact ⟨r.nd, r.at r.hwl not_imm_lst (by simp), (upd_ne a3).trans r.hx, (upd_ne b2).trans r.hhl, (upd_ne c1).trans r.hll, upd_same, (upd_ne d1.symm).trans r.hil, (upd_ne d2.symm).trans r.hbl⟩
theorem Raw.sil (r : Raw Y0 H0 C dx x hl ll wl il bl fs hs tk won hist bef H) {xs : List V} : Raw Y0 H0 C dx x hl ll wl il bl fs hs tk won xs bef (upd H il (.lst xs)) := by
  obtain ⟨⟨a1, a2, a3, a4, a5⟩, ⟨b1, b2, b3, b4⟩, ⟨c1, c2, c3⟩, ⟨d1, d2⟩, e1⟩ := nd6 r.nd
  exact ⟨r.nd, r.at r.hil not_imm_lst (by simp), (upd_ne a4).trans r.hx, (upd_ne b3).trans r.hhl, (upd_ne c2).trans r.hll, (upd_ne d1).trans r.hwl, upd_same, (upd_ne e1.symm).trans r.hbl⟩
theorem Raw.sbl (r : Raw Y0 H0 C dx x hl ll wl il bl fs hs tk won hist bef H) {xs : List V} : Raw Y0 H0 C dx x hl ll wl il bl fs hs tk won hist xs (upd H bl (.lst xs)) := by
  obtain ⟨⟨a1, a2, a3, a4, a5⟩, ⟨b1, b2, b3, b4⟩, ⟨c1, c2, c3⟩, ⟨d1, d2⟩, e1⟩ := nd6 r.nd
  exact ⟨r.nd, r.at r.hbl not_imm_lst (by simp), (upd_ne a5).trans r.hx, (upd_ne b4).trans r.hhl, (upd_ne c3).trans r.hll, (upd_ne d2).trans r.hwl, (upd_ne e1).trans r.hil, upd_same⟩
theorem ne_none {H : Hp} {a l : Addr} {o : HO} (h : H a = some o) (e : H l = none) : l ≠ a := fun z => by
  rw [z, h] at e
  cases e
theorem Raw.out (r : Raw Y0 H0 C dx x hl ll wl il bl fs hs tk won hist bef H) {l : Addr} (e : H l = none) : l ≠ x ∧ l ≠ hl ∧ l ≠ ll ∧ l ≠ wl ∧ l ≠ il ∧ l ≠ bl :=
  ⟨ne_none r.hx e, ne_none r.hhl e, ne_none r.hll e, ne_none r.hwl e, ne_none r.hil e, ne_none r.hbl e⟩
/-- a new list for _led -/
theorem Raw.nll (r : Raw Y0 H0 C dx x hl ll wl il bl fs hs tk won hist bef H) {l : Addr} {xs : List V} {fs' : List (Str × V)} (e : H l = none) : Raw Y0 H0 C dx x hl l wl il bl fs' hs xs won hist bef (upd (upd H l (.lst xs)) x (.ins C dx fs')) := by
  obtain ⟨⟨a1, a2, a3, a4, a5⟩, ⟨b1, b2, b3, b4⟩, ⟨c1, c2, c3⟩, ⟨d1, d2⟩, e1⟩ := nd6 r.nd
  obtain ⟨o1, o2, o3, o4, o5, o6⟩ := r.out e
  have q := (r.new (o := .lst xs) e).sx (fs' := fs')
  refine ⟨?_, ⟨q.m.1, fun y hy => ?_⟩, q.hx, q.hhl, (upd_ne o1).trans upd_same, q.hwl, q.hil, q.hbl⟩
  · simp only [List.nodup_cons, List.mem_cons, List.not_mem_nil, or_false, not_or, not_false_eq_true, List.nodup_nil, and_true]
    exact ⟨⟨a1, o1.symm, a3, a4, a5⟩, ⟨o2.symm, b2, b3, b4⟩, ⟨o4, o5, o6⟩, ⟨d1, d2⟩, e1⟩
  · by_cases z : y = l
    · subst z; exact r.m.back e
    · refine q.m.2 y ?_
      simp only [List.mem_cons, List.not_mem_nil, or_false] at hy ⊢
      rcases hy with h | h | h | h | h | h
      · exact .inl h
      · exact .inr (.inl h)
      · exact absurd h z
      · exact .inr (.inr (.inr (.inl h)))
      · exact .inr (.inr (.inr (.inr (.inl h))))
      · exact .inr (.inr (.inr (.inr (.inr h))))
/-- a new list for _won -/
theorem Raw.nwl (r : Raw Y0 H0 C dx x hl ll wl il bl fs hs tk won hist bef H) {l : Addr} {xs : List V} {fs' : List (Str × V)} (e : H l = none) : Raw Y0 H0 C dx x hl ll l il bl fs' hs tk xs hist bef (upd (upd H l (.lst xs)) x (.ins C dx fs')) := by
  obtain ⟨⟨a1, a2, a3, a4, a5⟩, ⟨b1, b2, b3, b4⟩, ⟨c1, c2, c3⟩, ⟨d1, d2⟩, e1⟩ := nd6 r.nd
  obtain ⟨o1, o2, o3, o4, o5, o6⟩ := r.out e
  have q := (r.new (o := .lst xs) e).sx (fs' := fs')
  refine ⟨?_, ⟨q.m.1, fun y hy => ?_⟩, q.hx, q.hhl, q.hll, (upd_ne o1).trans upd_same, q.hil, q.hbl⟩
  · simp only [List.nodup_cons, List.mem_cons, List.not_mem_nil, or_false, not_or, not_false_eq_true, List.nodup_nil, and_true]
    exact ⟨⟨a1, a2, o1.symm, a4, a5⟩, ⟨b1, o2.symm, b3, b4⟩, ⟨o3.symm, c2, c3⟩, ⟨o5, o6⟩, e1⟩
  · by_cases z : y = l
    · subst z; exact r.m.back e
    · refine q.m.2 y ?_
      simp only [List.mem_cons, List.not_mem_nil, or_false] at hy ⊢
      rcases hy with h | h | h | h | h | h
      · exact .inl h
      · exact .inr (.inl h)
      · exact .inr (.inr (.inl h))
      · exact absurd h z
      · exact .inr (.inr (.inr (.inr (.inl h))))
      · exact .inr (.inr (.inr (.inr (.inr h))))
end
theorem nxt_hs (R : Nat) (p : Psn) (c : Nat) : (nxt R p c).hs = p.hs.set (mover p) (hand p ^^^ (1 <<< c)) := by unfold nxt; split <;> rfl
theorem nxt_tr (R : Nat) (p : Psn) (c : Nat) : (nxt R p c).tr = p.tr := by unfold nxt; split <;> rfl
theorem hs_back {p : Psn} {R c : Nat} (h : mover p < p.hs.length) : (nxt R p c).hs.set (mover p) ((nxt R p c).hs.getD (mover p) 0 ^^^ (1 <<< c)) = p.hs := by
  rw [nxt_hs, getD_set h, if_pos rfl, List.set_set, Nat.xor_assoc, Nat.xor_self, Nat.xor_zero]
  unfold hand
  refine List.ext_getElem? fun i => ?_
  rw [List.getElem?_set]
  by_cases e : mover p = i
  · subst e; rw [if_pos rfl, if_pos h, getD_at h]
  · rw [if_neg e]
theorem inV_nts {c : Nat} {l : List Nat} : inV (.int (c : Nat)) (nts l) = decide (c ∈ l) := by
  unfold inV nts
  rw [Bool.eq_iff_iff, List.any_map, List.any_eq_true, decide_eq_true_iff]
  constructor
  · rintro ⟨a, ha, e⟩
    have e' : ((a : Int) == (c : Int)) = true := e
    have : a = c := by have := beq_iff_eq.mp e'; omega
    rw [← this]; exact ha
  · intro h
    exact ⟨c, h, (beq_iff_eq.mpr rfl : ((c : Int) == (c : Int)) = true)⟩
theorem flat_nts (l : List Nat) : (nts l).all flatV = true := by
  unfold nts
  rw [List.all_map]
  exact List.all_eq_true.mpr fun _ _ => rfl
theorem ix_nat {n j : Nat} (hj : j < n) : ixN n (j : Int) = some j := by
  unfold ixN
  rw [if_pos (by omega), if_pos (by omega)]
  rfl
theorem xor_nat (a c : Nat) : Builtin.bitXor (a : Int) ((1 : Int) * (2 : Int) ^ ((c : Nat) : Int).toNat) = ((a ^^^ (1 <<< c) : Nat) : Int) := by
  have e : (1 : Int) * (2 : Int) ^ ((c : Nat) : Int).toNat = ((1 <<< c : Nat) : Int) := shl_nat 1 c
  rw [e, Bits.bitXor_pp (Int.natCast_nonneg _) (Int.natCast_nonneg _)]
  rfl
theorem Good.put {S R n : Nat} {s : PS} {c : Nat} {a b : Addr} (g : Good S R (n + 1) s) (h : c ∈ legal R s.p) : Good S R n (putS R s c a b) := by
  refine ⟨g.s1, g.s4, g.r1, g.r13, g.wf.next g.r1 h, ?_, ?_⟩
  · have := g.h100
    show (s.hist ++ [a]).length + n ≤ 100
    rw [List.length_append, List.length_singleton]; omega
  · have := g.b100
    show (s.bef ++ [b]).length + n ≤ 100
    rw [List.length_append, List.length_singleton]; omega
section
variable {P : Program} {w : World} {K : PySem.W.Frag} {mg : Str → Option Value} {base : Heap} {C : Addr}
theorem sc_Play_put : FnScope ["self", "card", "player"] ["self", "card"] (defScope (inClass (top 22) 11)) := ⟨rfl, rfl, rfl, by decide +kernel, rfl, by decide +kernel, by decide +kernel⟩
theorem ok_Play_put (E : EntM K C "put" "Play.put" (inClass (top 22) 11)) (pc : PlC K C) (T : Txt K mg) (M_turn : ∀ base, Mt P w K mg base C 2 "turn" ["self"] (spTurn C)) (M_legal : ∀ base, Mt P w K mg base C 2 "legal" ["self"] (spLegal C))
    (D_winner_of : ∀ base, Df P w K mg base 2 "winner_of" ["deck", "trump", "leader", "cards"] spWinner) (D_side_of : ∀ base, Df P w K mg base 1 "side_of" ["player"] spSide) :
    Mt P w K mg base C 3 "put" ["self", "card"] (spPut C) := by
  refine mt_mk E sc_Play_put (fun _ _ _ _ _ _ us hl => match us, hl with | [_, _], _ => rfl) (fun vs H Q E h => ?_) (fun f cdv A outer s H vs Q E hr h => ?_)
  · obtain ⟨x, dk, Y, S, R, n, s, c, rfl, _⟩ := h; rfl
  · obtain ⟨x, dk, Y, S, R, n, st, c, rfl, pl, hc, q⟩ := h
    obtain ⟨g, hd, dx, hl, ll, wl, il, bl, rfl, nd, h1, h2, h3, h4, h5, h6⟩ := id pl
    refine ⟨_, (pss_cons (ps_set (i := 2) sc_Play_put.nd rfl (Or.inl rfl) (pe_md0 (pv 0) pc.cls (M_turn _) hr))
      (pss_cons (ps_if (pt_cmpR op_notIn_seq (pv 1) (pe_md0 (pv 0) pc.cls (M_legal _) hr) rfl) (pss_one ps_never) pss_nil)
      (pss_cons (ps_expr (pe_bm PySem.F.plainAttrs_list PySem.F.slot_list_append PySem.F.type_list_append mt_append (pe_fld (pv 0) rfl) (pa_cons (pe_tup (pa_cons (pe_fld (pv 0) rfl) (pa_cons (pe_callTy call_tuple_of rfl T.f_tuple (by decide +kernel) (pa_cons (pe_fld (pv 0) rfl) pa_nil)) (pa_cons (pe_callTy call_tuple_of rfl T.f_tuple (by decide +kernel) (pa_cons (pe_fld (pv 0) rfl) pa_nil)) pa_nil)))) pa_nil)))
      (pss_cons (ps_expr (pe_bm PySem.F.plainAttrs_list PySem.F.slot_list_append PySem.F.type_list_append mt_append (pe_fld (pv 0) rfl) (pa_cons (pe_tup (pa_cons (pv 2) (pa_cons (pv 1) pa_nil))) pa_nil)))
      (pss_cons (ps_asg (pe_op op_xor (pe_ix ix_list (pe_fld (pv 0) rfl) (pv 2) (fun _ _ => rfl)) (pe_op op_shl pe_int (pv 1))) (pg_sub (pe_fld (pv 0) rfl) (pv 2) set_list))
      (pss_cons (ps_expr (pe_bm PySem.F.plainAttrs_list PySem.F.slot_list_append PySem.F.type_list_append mt_append (pe_fld (pv 0) rfl) (pa_cons (pv 1) pa_nil)))
      (pss_one (ps_if (pt_cmpR op_eq (pe_callB call_len_seq rfl T.f_len PySem.boot_len (pa_cons (pe_fld (pv 0) rfl) pa_nil)) pe_int (nomark _)) (pss_cons (ps_fld (pv 0) (pe_cd (D_winner_of _) hr rfl (pa_cons (pe_fld (pv 0) rfl) (pa_cons (pe_fld (pv 0) rfl) (pa_cons (pe_fld (pv 0) rfl) (pa_cons (pe_fld (pv 0) rfl) pa_nil))))) rfl)
      (pss_cons (ps_augS (pe_fld (pv 0) rfl) (pe_cd ((D_side_of _).mono (by decide)) hr rfl (pa_cons (pe_fld (pv 0) rfl) pa_nil)) get_list pe_int ip_add set_list)
      (pss_one (ps_fld (pv 0) (pe_lst pa_nil) rfl)))) pss_nil)))))))), ?_⟩
    have r0 : Raw [x, hl, ll, wl, il, bl] H C dx x hl ll wl il bl (fsP dk st.p.tr st.p.ld hl ll wl il bl) (nts st.p.hs) (nts st.p.tk) [.int st.w0, .int st.w1] (st.hist.map V.ref) (st.bef.map V.ref) H := ⟨nd, .refl _ _, h1, h2, h3, h4, h5, h6⟩
    have hlen := g.wf.len
    have hm : mover st.p < st.p.hs.length := by rw [hlen]; exact g.wf.mv
    have hb16 : hand st.p < 2 ^ 16 := g.wf.big _ (getD_mem hm)
    have hc2 := legal_sub g.r1 hc
    have c16 : c < 16 := cards_lt hb16 hc2
    have tk4 := g.wf.tk
    have b100 := g.b100
    have i100 := g.h100
    refine ⟨_, rfl, x, _, _, rfl, h1, rfl, x, dk, _, S, R, n, st, rfl, pl, fun H1 sm1 => ?_⟩
    refine ⟨_, rfl, _, rfl, x, _, _, rfl, sm1 _ _ h1, rfl, x, dk, _, S, R, n + 1, st, rfl, pl.same sm1, fun lp H2 sm2 hlp elp => ?_⟩
    refine ⟨lp, _, rfl, .inl (SqL.of elp), rfl, flat_nts _, false, ?_, iteF ?_⟩
    · rw [inV_nts, decide_eq_true hc]; rfl
    have r2 := r0.same (sm1.trans sm2)
    clear elp hlp lp
    refine ⟨_, rfl, x, C, _, _, _, rfl, r2.hx, pc.cls, pc.n8, rfl, .inl ⟨rfl, _, SqL.of r2.hbl⟩, _, rfl, x, C, _, _, _, rfl, r2.hx, pc.cls, pc.n3, rfl, _, rfl, x, C, _, _, _, rfl, r2.hx, pc.cls, pc.n5, rfl, ll, _, rfl, .inl ⟨SqL.of r2.hll, fun t1 ht1 => ?_⟩⟩
    have r3 := r2.new (o := .tup (nts st.p.tk)) ht1
    have e1 : upd H2 t1 (.tup (nts st.p.tk)) t1 = some (.tup (nts st.p.tk)) := upd_same
    generalize upd H2 t1 (.tup (nts st.p.tk)) = H3 at *
    refine ⟨_, rfl, x, C, _, _, _, rfl, r3.hx, pc.cls, pc.n6, rfl, wl, _, rfl, .inl ⟨SqL.of r3.hwl, fun t2 ht2 => ?_⟩⟩
    have r4 := r3.new (o := .tup [.int st.w0, .int st.w1]) ht2
    have e2 : upd H3 t2 (.tup [.int st.w0, .int st.w1]) t2 = some (.tup [.int st.w0, .int st.w1]) := upd_same
    have e1 := Fi.Same.upd_new (Same.refl H3) ht2 (o := .tup [.int st.w0, .int st.w1]) _ _ e1
    generalize upd H3 t2 (.tup [.int st.w0, .int st.w1]) = H4 at *
    refine ⟨by show (3 : Nat) ≤ sizeLine; decide, fun b hb => ?_⟩
    have r5 := r4.new (o := .tup [.int (st.p.ld : Nat), .ref t1, .ref t2]) hb
    have e0 : upd H4 b (.tup [.int (st.p.ld : Nat), .ref t1, .ref t2]) b = some (.tup [.int (st.p.ld : Nat), .ref t1, .ref t2]) := upd_same
    have e1 := Fi.Same.upd_new (Same.refl H4) hb (o := .tup [.int (st.p.ld : Nat), .ref t1, .ref t2]) _ _ e1
    have e2 := Fi.Same.upd_new (Same.refl H4) hb (o := .tup [.int (st.p.ld : Nat), .ref t1, .ref t2]) _ _ e2
    generalize upd H4 b (.tup [.int (st.p.ld : Nat), .ref t1, .ref t2]) = H5 at *
    refine ⟨bl, _, _, rfl, rfl, r5.hbl, small1000 (by simp; omega), ?_⟩
    have r6 := r5.rebase.sbl (xs := st.bef.map V.ref ++ [.ref b])
    have m6 := r5.m
    generalize upd H5 bl (.lst (st.bef.map V.ref ++ [.ref b])) = H6 at *
    refine ⟨_, rfl, x, C, _, _, _, rfl, r6.hx, pc.cls, pc.n7, rfl, .inl ⟨rfl, _, SqL.of r6.hil⟩, _, rfl, _, rfl, by show (2 : Nat) ≤ sizeLine; decide, fun a ha => ?_⟩
    have r7 := r6.new (o := .tup [.int (mover st.p : Nat), .int (c : Nat)]) ha
    have ea : upd H6 a (.tup [.int (mover st.p : Nat), .int (c : Nat)]) a = some (.tup [.int (mover st.p : Nat), .int (c : Nat)]) := upd_same
    have mm := m6.trans r7.m
    have tk7 := r7.m.1.tk
    have un : Undo (upd H6 a (.tup [.int (mover st.p : Nat), .int (c : Nat)])) st c a b := ⟨ea, t1, t2, tk7 _ _ e0, tk7 _ _ e1, tk7 _ _ e2⟩
    generalize upd H6 a (.tup [.int (mover st.p : Nat), .int (c : Nat)]) = H7 at *
    refine ⟨il, _, _, rfl, rfl, r7.hil, small1000 (by simp; omega), ?_⟩
    have r8 := r7.rebase.sil (xs := st.hist.map V.ref ++ [.ref a])
    generalize upd H7 il (.lst (st.hist.map V.ref ++ [.ref a])) = H8 at *
    refine ⟨_, rfl, x, C, _, _, _, rfl, r8.hx, pc.cls, pc.n4, rfl, _, rfl, hl, _, _, _, rfl, rfl, SqL.of r8.hhl, at_of rfl (nts_at (getD_at hm)), ?_⟩
    refine ⟨_, rfl, _, _, rfl, rfl, ⟨by omega, by omega, by decide⟩, _, _, rfl, rfl, ?_⟩
    refine ⟨_, rfl, x, C, _, _, _, rfl, r8.hx, pc.cls, pc.n4, rfl, _, rfl, hl, _, _, _, rfl, rfl, r8.hhl, ix_nat (by rw [nts_len]; exact hm), ?_⟩
    have ex : (nts st.p.hs).set (mover st.p) (V.int (Builtin.bitXor ((st.p.hs.getD (mover st.p) 0 : Nat) : Int) ((1 : Int) * (2 : Int) ^ ((c : Nat) : Int).toNat))) = nts (st.p.hs.set (mover st.p) (hand st.p ^^^ (1 <<< c))) := by
      rw [xor_nat, nts_set]; rfl
    have r9 := r8.shl (xs := nts (st.p.hs.set (mover st.p) (hand st.p ^^^ (1 <<< c))))
    rw [← ex] at r9
    dsimp only
    generalize upd H8 hl (.lst ((nts st.p.hs).set (mover st.p) (V.int (Builtin.bitXor ((st.p.hs.getD (mover st.p) 0 : Nat) : Int) ((1 : Int) * (2 : Int) ^ ((c : Nat) : Int).toNat))))) = H9 at *
    rw [ex] at r9
    refine ⟨_, rfl, x, C, _, _, _, rfl, r9.hx, pc.cls, pc.n5, rfl, .inl ⟨rfl, _, SqL.of r9.hll⟩, _, rfl, ll, _, _, rfl, rfl, r9.hll, small1000 (by rw [nts_len]; omega), ?_⟩
    have r10 := r9.sll (xs := nts (st.p.tk ++ [c]))
    rw [nts_app]
    generalize upd H9 ll (.lst (nts (st.p.tk ++ [c]))) = H10 at *
    refine ⟨_, rfl, x, C, _, _, _, rfl, r10.hx, pc.cls, pc.n5, rfl, ll, _, rfl, .inl (SqL.of r10.hll), rfl, decide (st.p.tk.length = 3), ?_, ?_⟩
    · rw [nts_len, List.length_append, List.length_singleton]
      by_cases z : st.p.tk.length = 3
      · rw [z]; rfl
      · rw [decide_eq_false z]; exact b_eqF (by omega)
    refine ite2 (fun z => ?_) fun z => ?_
    · have z : st.p.tk.length = 3 := of_decide_eq_true z
      have hd10 := r10.m.1.tk _ _ (mm.1.tk _ _ hd)
      refine ⟨_, rfl, x, C, _, _, _, rfl, r10.hx, pc.cls, pc.n1, rfl, _, rfl, x, C, _, _, _, rfl, r10.hx, pc.cls, pc.n2, rfl, _, rfl, x, C, _, _, _, rfl, r10.hx, pc.cls, pc.n3, rfl, _, rfl, x, C, _, _, _, rfl, r10.hx, pc.cls, pc.n5, rfl, ?_⟩
      refine ⟨dk, ll, S, R, st.p.tr, st.p.ld, st.p.tk ++ [c], rfl, hd10, r10.hll, g.r1, g.r13, by simp, fun H11 sm11 => ?_⟩
      have r11 := r10.same sm11
      generalize hw : winner R st.p.tr st.p.ld (st.p.tk ++ [c]) = w at *
      refine ⟨_, rfl, x, C, _, _, rfl, r11.hx, pc.cls, pc.n3, by show (8 : Nat) < 1000; decide, ?_⟩
      have r12 : Raw _ _ C dx x hl ll wl il bl (fsP dk st.p.tr w hl ll wl il bl) _ _ _ _ _ _ := r11.sx (fs' := putF "_leader" (.int (w : Nat)) (fsP dk st.p.tr st.p.ld hl ll wl il bl))
      generalize upd H11 x (.ins C dx (putF "_leader" (.int (w : Nat)) (fsP dk st.p.tr st.p.ld hl ll wl il bl))) = H12 at *
      have w2 : w % 2 = 0 ∨ w % 2 = 1 := by omega
      have hwi : ([V.int st.w0, V.int st.w1] : List V)[w % 2]? = some (.int (wn st (w % 2))) := by
        rcases w2 with e | e <;> rw [e] <;> rfl
      refine ⟨_, rfl, x, C, _, _, _, rfl, r12.hx, pc.cls, pc.n6, rfl, _, rfl, x, C, _, _, _, rfl, r12.hx, pc.cls, pc.n3, rfl, w, rfl, ?_⟩
      refine ⟨wl, _, _, _, rfl, rfl, SqL.of r12.hwl, at_of rfl hwi, _, _, rfl, rfl, wl, _, _, _, rfl, rfl, r12.hwl, ix_nat (by show w % 2 < 2; omega), ?_⟩
      have r13 := r12.swl (xs := [V.int st.w0, V.int st.w1].set (w % 2) (.int (wn st (w % 2) + 1)))
      dsimp only
      generalize upd H12 wl (.lst ([V.int st.w0, V.int st.w1].set (w % 2) (.int (wn st (w % 2) + 1)))) = H13 at *
      refine ⟨by show (0 : Nat) ≤ sizeLine; decide, fun l hl' => ?_⟩
      refine ⟨_, rfl, x, C, _, _, rfl, (r13.new hl').hx, pc.cls, pc.n5, by show (8 : Nat) < 1000; decide, ?_⟩
      have r14 : Raw _ _ C dx x hl l wl il bl (fsP dk st.p.tr w hl l wl il bl) _ _ _ _ _ _ := r13.nll (xs := []) (fs' := putF "_led" (.ref l) (fsP dk st.p.tr w hl ll wl il bl)) hl'
      refine q _ _ a b (mm.trans r14.m) ⟨g.put hc, r14.m.1.tk _ _ (mm.1.tk _ _ hd), dx, hl, l, wl, il, bl, rfl, r14.nd, ?_⟩ (un.mono r14.m.1.tk)
      have e : putS R st c a b = ⟨⟨st.p.tr, st.p.hs.set (mover st.p) (hand st.p ^^^ (1 <<< c)), w, []⟩, st.w0 + (if w % 2 = 0 then 1 else 0), st.w1 + (if w % 2 = 1 then 1 else 0), st.hist ++ [a], st.bef ++ [b]⟩ := by
        unfold putS gain nxt
        rw [if_pos z, hw]
        simp [z]
      rw [e]
      refine ⟨r14.hx, r14.hhl, r14.hll, ?_, ?_, ?_⟩
      · rw [r14.hwl]
        rcases w2 with e | e <;> rw [e] <;> simp [wn]
      · rw [r14.hil, List.map_append]; rfl
      · rw [r14.hbl, List.map_append]; rfl
    · have z : ¬ st.p.tk.length = 3 := fun y => z (decide_eq_true y)
      refine q _ _ a b (mm.trans r10.m) ⟨g.put hc, r10.m.1.tk _ _ (mm.1.tk _ _ hd), dx, hl, ll, wl, il, bl, rfl, nd, ?_⟩ (un.mono r10.m.1.tk)
      have e : putS R st c a b = ⟨⟨st.p.tr, st.p.hs.set (mover st.p) (hand st.p ^^^ (1 <<< c)), st.p.ld, st.p.tk ++ [c]⟩, st.w0, st.w1, st.hist ++ [a], st.bef ++ [b]⟩ := by
        unfold putS gain nxt
        rw [if_neg z, if_neg (fun y => z y.1), if_neg (fun y => z y.1)]
        simp
      rw [e]
      refine ⟨r10.hx, r10.hhl, r10.hll, r10.hwl, ?_, ?_⟩
      · rw [r10.hil, List.map_append]; rfl
      · rw [r10.hbl, List.map_append]; rfl
end
end Fi
/-! take_back, begin, the makers of a play -/
namespace Fi
open PySem PySem.Spec PyProof.Rows L2
theorem last_ref (l : List Addr) (a : Addr) : ((l ++ [a]).map V.ref)[((l ++ [a]).map V.ref).length - 1]? = some (.ref a) := by simp
theorem drop_ref (l : List Addr) (a : Addr) : ((l ++ [a]).map V.ref).dropLast = l.map V.ref := by
  rw [List.map_append]
  exact List.dropLast_concat
section
variable {P : Program} {w : World} {K : PySem.W.Frag} {mg : Str → Option Value} {base : Heap} {C : Addr}
theorem sc_Play_take_back : FnScope ["self", "player", "card", "led", "won"] ["self"] (defScope (inClass (top 22) 12)) := ⟨rfl, rfl, rfl, by decide +kernel, rfl, by decide +kernel, by decide +kernel⟩
theorem ok_Play_take_back (E : EntM K C "take_back" "Play.take_back" (inClass (top 22) 12)) (pc : PlC K C) (T : Txt K mg) : Mt P w K mg base C 1 "take_back" ["self"] (spTake C) := by
  refine mt_mk E sc_Play_take_back (fun _ _ _ _ _ _ us hl => match us, hl with | [_], _ => rfl) (fun vs H Q E h => ?_) (fun f cdv A outer s H vs Q E hr h => ?_)
  · obtain ⟨x, dk, Y, S, R, n, s, c, a, b, rfl, _⟩ := h; rfl
  · obtain ⟨x, dk, Y, S, R, n, st, c, a, b, rfl, pl, g0, hc, un, q⟩ := h
    obtain ⟨g, hd, dx, hl, ll, wl, il, bl, rfl, nd, h1, h2, h3, h4, h5, h6⟩ := id pl
    obtain ⟨ua, lt, wt, ub, ul, uw⟩ := un
    refine ⟨_, (pss_cons (ps_if (pt_cmpR op_eq (pe_callB call_len_seq rfl T.f_len PySem.boot_len (pa_cons (pe_fld (pv 0) rfl) pa_nil)) pe_int (nomark _)) (pss_one ps_never) pss_nil)
      (pss_cons (ps_asg (pe_bm0 PySem.F.plainAttrs_list PySem.F.slot_list_pop PySem.F.type_list_pop mt_pop (pe_fld (pv 0) rfl)) (pg_tup rfl (pgs_cons (pg_name (i := 1) sc_Play_take_back.nd rfl (Or.inl rfl)) (pgs_cons (pg_name (i := 2) sc_Play_take_back.nd rfl (Or.inl rfl)) pgs_nil))))
      (pss_cons (ps_asg (pe_bm0 PySem.F.plainAttrs_list PySem.F.slot_list_pop PySem.F.type_list_pop mt_pop (pe_fld (pv 0) rfl)) (pg_tup rfl (pgs_cons (pg_fld (pv 0)) (pgs_cons (pg_name (i := 3) sc_Play_take_back.nd rfl (Or.inl rfl)) (pgs_cons (pg_name (i := 4) sc_Play_take_back.nd rfl (Or.inl rfl)) pgs_nil)))))
      (pss_cons (ps_fld (pv 0) (pe_callTy call_list_of rfl T.f_list (by decide +kernel) (pa_cons (pv 3) pa_nil)) rfl)
      (pss_cons (ps_fld (pv 0) (pe_callTy call_list_of rfl T.f_list (by decide +kernel) (pa_cons (pv 4) pa_nil)) rfl)
      (pss_one (ps_asg (pe_op op_xor (pe_ix ix_list (pe_fld (pv 0) rfl) (pv 1) (fun _ _ => rfl)) (pe_op op_shl pe_int (pv 2))) (pg_sub (pe_fld (pv 0) rfl) (pv 1) set_list)))))))), ?_⟩
    have hlen := g0.wf.len
    have hm : mover st.p < st.p.hs.length := by rw [hlen]; exact g0.wf.mv
    have hb16 : hand st.p < 2 ^ 16 := g0.wf.big _ (getD_mem hm)
    have hc2 := legal_sub g0.r1 hc
    have c16 : c < 16 := cards_lt hb16 hc2
    have r0 : Raw [x, hl, ll, wl, il, bl] H C dx x hl ll wl il bl (fsP dk (nxt R st.p c).tr (nxt R st.p c).ld hl ll wl il bl) (nts (nxt R st.p c).hs) (nts (nxt R st.p c).tk) [.int (st.w0 + gain R 0 st.p c), .int (st.w1 + gain R 1 st.p c)] ((st.hist ++ [a]).map V.ref) ((st.bef ++ [b]).map V.ref) H := ⟨nd, .refl _ _, h1, h2, h3, h4, h5, h6⟩
    clear h1 h2 h3 h4 h5 h6
    refine ⟨_, rfl, x, C, _, _, _, rfl, r0.hx, pc.cls, pc.n7, rfl, il, _, rfl, .inl (SqL.of r0.hil), rfl, false, b_eqF ?_, iteF ?_⟩
    · rw [List.length_map, List.length_append, List.length_singleton]; omega
    refine ⟨_, rfl, x, C, _, _, _, rfl, r0.hx, pc.cls, pc.n7, rfl, .inl ⟨rfl, _, SqL.of r0.hil⟩, il, _, _, rfl, rfl, r0.hil, last_ref _ _, ?_⟩
    have r1 := r0.sil (xs := st.hist.map V.ref)
    rw [drop_ref]
    generalize upd H il (.lst (st.hist.map V.ref)) = H1 at *
    have t1 := r1.m.1.tk
    refine ⟨a, _, rfl, SqT.of (t1 _ _ ua), rfl, _, _, rfl, _, _, rfl, rfl, ?_⟩
    refine ⟨_, rfl, x, C, _, _, _, rfl, r1.hx, pc.cls, pc.n8, rfl, .inl ⟨rfl, _, SqL.of r1.hbl⟩, bl, _, _, rfl, rfl, r1.hbl, last_ref _ _, ?_⟩
    have r2 := r1.sbl (xs := st.bef.map V.ref)
    rw [drop_ref]
    generalize upd H1 bl (.lst (st.bef.map V.ref)) = H2 at *
    have t2 := r2.m.1.tk
    refine ⟨b, _, rfl, SqT.of (t2 _ _ ub), rfl, _, _, rfl, ?_⟩
    refine ⟨_, rfl, x, C, _, _, rfl, r2.hx, pc.cls, pc.n3, by show (8 : Nat) < 1000; decide, ?_⟩
    have r3 : Raw _ _ C dx x hl ll wl il bl (fsP dk (nxt R st.p c).tr st.p.ld hl ll wl il bl) _ _ _ _ _ _ := r2.sx (fs' := putF "_leader" (.int (st.p.ld : Nat)) (fsP dk (nxt R st.p c).tr (nxt R st.p c).ld hl ll wl il bl))
    generalize upd H2 x (.ins C dx (putF "_leader" (.int (st.p.ld : Nat)) (fsP dk (nxt R st.p c).tr (nxt R st.p c).ld hl ll wl il bl))) = H3 at *
    have t3 := r3.m.1.tk
    refine ⟨_, _, rfl, _, _, rfl, rfl, ?_⟩
    refine ⟨_, rfl, lt, _, rfl, .inr (SqT.of (t3 _ _ ul)), fun l1 hl1 => ?_⟩
    refine ⟨_, rfl, x, C, _, _, rfl, (r3.new hl1).hx, pc.cls, pc.n5, by show (8 : Nat) < 1000; decide, ?_⟩
    have r4 : Raw _ _ C dx x hl l1 wl il bl (fsP dk (nxt R st.p c).tr st.p.ld hl l1 wl il bl) _ _ _ _ _ _ := r3.nll (xs := nts st.p.tk) (fs' := putF "_led" (.ref l1) (fsP dk (nxt R st.p c).tr st.p.ld hl ll wl il bl)) hl1
    generalize upd (upd H3 l1 (.lst (nts st.p.tk))) x (.ins C dx (putF "_led" (.ref l1) (fsP dk (nxt R st.p c).tr st.p.ld hl ll wl il bl))) = H4 at *
    have t4 := r4.m.1.tk
    refine ⟨_, rfl, wt, _, rfl, .inr (SqT.of (t4 _ _ uw)), fun l2 hl2 => ?_⟩
    refine ⟨_, rfl, x, C, _, _, rfl, (r4.new hl2).hx, pc.cls, pc.n6, by show (8 : Nat) < 1000; decide, ?_⟩
    have r5 : Raw _ _ C dx x hl l1 l2 il bl (fsP dk (nxt R st.p c).tr st.p.ld hl l1 l2 il bl) _ _ _ _ _ _ := r4.nwl (xs := [.int st.w0, .int st.w1]) (fs' := putF "_won" (.ref l2) (fsP dk (nxt R st.p c).tr st.p.ld hl l1 wl il bl)) hl2
    generalize upd (upd H4 l2 (.lst [.int st.w0, .int st.w1])) x (.ins C dx (putF "_won" (.ref l2) (fsP dk (nxt R st.p c).tr st.p.ld hl l1 wl il bl))) = H5 at *
    have hm' : mover st.p < (nxt R st.p c).hs.length := by rw [nxt_hs, List.length_set]; exact hm
    refine ⟨_, rfl, x, C, _, _, _, rfl, r5.hx, pc.cls, pc.n4, rfl, _, rfl, hl, _, _, _, rfl, rfl, SqL.of r5.hhl, at_of rfl (nts_at (getD_at hm')), ?_⟩
    refine ⟨_, rfl, _, _, rfl, rfl, ⟨by omega, by omega, by decide⟩, _, _, rfl, rfl, ?_⟩
    refine ⟨_, rfl, x, C, _, _, _, rfl, r5.hx, pc.cls, pc.n4, rfl, _, rfl, hl, _, _, _, rfl, rfl, r5.hhl, ix_nat (by rw [nts_len]; exact hm'), ?_⟩
    have r6 := r5.shl (xs := nts st.p.hs)
    have ex : (nts (nxt R st.p c).hs).set (mover st.p) (V.int (Builtin.bitXor (((nxt R st.p c).hs.getD (mover st.p) 0 : Nat) : Int) ((1 : Int) * (2 : Int) ^ ((c : Nat) : Int).toNat))) = nts st.p.hs := by
      rw [xor_nat, nts_set, hs_back hm]
    rw [← ex] at r6
    refine q _ _ r6.m ⟨g0, r6.m.1.tk _ _ hd, dx, hl, l1, l2, il, bl, rfl, r6.nd, ?_⟩
    exact ⟨r6.hx.trans (by rw [nxt_tr]), r6.hhl.trans (by rw [ex]), r6.hll, r6.hwl, r6.hil, r6.hbl⟩
theorem sc_Play_begin : FnScope ["self", "deck", "position", "hands", "led"] ["self", "deck", "position"] (defScope (inClass (top 22) 1)) := ⟨rfl, rfl, rfl, by decide +kernel, rfl, by decide +kernel, by decide +kernel⟩
theorem ok_Play_begin (E : EntM K C "begin" "Play.begin" (inClass (top 22) 1)) (pc : PlC K C) (T : Txt K mg) : Mt P w K mg base C 1 "begin" ["self", "deck", "position"] (spBegin C) := by
  refine mt_mk E sc_Play_begin (fun _ _ _ _ _ _ us hl => match us, hl with | [_, _, _], _ => rfl) (fun vs H Q E h => ?_) (fun f cdv A outer s H vs Q E hr h => ?_)
  · obtain ⟨x, dx, dk, b, S, R, n, p, rfl, _⟩ := h; rfl
  · obtain ⟨x, dx, dk, b, S, R, n, p, rfl, hx, hd, ⟨h1, t1, pb, ph, pt⟩, g, q⟩ := h
    refine ⟨_, (pss_cons (ps_fld (pv 0) (pv 1) rfl)
      (pss_cons (ps_asg (pv 2) (pg_tup rfl (pgs_cons (pg_fld (pv 0)) (pgs_cons (pg_name (i := 3) sc_Play_begin.nd rfl (Or.inl rfl)) (pgs_cons (pg_fld (pv 0)) (pgs_cons (pg_name (i := 4) sc_Play_begin.nd rfl (Or.inl rfl)) pgs_nil))))))
      (pss_cons (ps_fld (pv 0) (pe_callTy call_list_of rfl T.f_list (by decide +kernel) (pa_cons (pv 3) pa_nil)) rfl)
      (pss_cons (ps_fld (pv 0) (pe_callTy call_list_of rfl T.f_list (by decide +kernel) (pa_cons (pv 4) pa_nil)) rfl)
      (pss_cons (ps_fld (pv 0) (pe_lst (pa_cons pe_int (pa_cons pe_int pa_nil))) rfl)
      (pss_cons (ps_fld (pv 0) (pe_lst pa_nil) rfl)
      (pss_one (ps_fld (pv 0) (pe_lst pa_nil) rfl)))))))), ?_⟩
    refine ⟨_, rfl, _, rfl, x, C, dx, _, rfl, hx, pc.cls, pc.n1, by show (0 : Nat) < 1000; decide, ?_⟩
    have k1 : Kp [x] H (upd H x (.ins C dx (putF "_deck" (.ref dk) []))) := (Kp.refl [x] H).chg hx not_imm_ins (.inl (by simp))
    have x1 : upd H x (.ins C dx (putF "_deck" (.ref dk) [])) x = some (.ins C dx [("_deck", .ref dk)]) := upd_same
    generalize upd H x (.ins C dx (putF "_deck" (.ref dk) [])) = H1 at *
    refine ⟨_, rfl, b, _, rfl, SqT.of (k1.tk _ _ pb), rfl, _, _, rfl, ?_⟩
    refine ⟨_, rfl, x, C, dx, _, rfl, x1, pc.cls, pc.n2, by show (1 : Nat) < 1000; decide, ?_⟩
    have k2 : Kp [x] H (upd H1 x (.ins C dx (putF "_trump" (.int p.tr) [("_deck", .ref dk)]))) := k1.chg x1 not_imm_ins (.inl (by simp))
    have x2 : upd H1 x (.ins C dx (putF "_trump" (.int p.tr) [("_deck", .ref dk)])) x = some (.ins C dx [("_deck", .ref dk), ("_trump", .int p.tr)]) := upd_same
    generalize upd H1 x (.ins C dx (putF "_trump" (.int p.tr) [("_deck", .ref dk)])) = H2 at *
    refine ⟨_, _, rfl, _, _, rfl, _, rfl, x, C, dx, _, rfl, x2, pc.cls, pc.n3, by show (2 : Nat) < 1000; decide, ?_⟩
    have k3 : Kp [x] H (upd H2 x (.ins C dx (putF "_leader" (.int (p.ld : Nat)) [("_deck", .ref dk), ("_trump", .int p.tr)]))) := k2.chg x2 not_imm_ins (.inl (by simp))
    have x3 : upd H2 x (.ins C dx (putF "_leader" (.int (p.ld : Nat)) [("_deck", .ref dk), ("_trump", .int p.tr)])) x = some (.ins C dx [("_deck", .ref dk), ("_trump", .int p.tr), ("_leader", .int (p.ld : Nat))]) := upd_same
    generalize upd H2 x (.ins C dx (putF "_leader" (.int (p.ld : Nat)) [("_deck", .ref dk), ("_trump", .int p.tr)])) = H3 at *
    refine ⟨_, _, rfl, rfl, ?_⟩
    refine ⟨_, rfl, h1, _, rfl, .inr (SqT.of (k3.tk _ _ ph)), fun hl hhl => ?_⟩
    have j4 := k3.new (o := .lst (nts p.hs)) hhl
    have y4 := Fi.Same.upd_new (Same.refl H3) hhl (o := .lst (nts p.hs))
    have fhl : upd H3 hl (.lst (nts p.hs)) hl = some (.lst (nts p.hs)) := upd_same
    have nhl : hl ≠ x := ne_none x3 hhl
    have ohl := k3.free hhl (by simpa using nhl)
    have x3' := y4 _ _ x3
    generalize upd H3 hl (.lst (nts p.hs)) = J4 at *
    refine ⟨_, rfl, x, C, dx, _, rfl, x3', pc.cls, pc.n4, by show (3 : Nat) < 1000; decide, ?_⟩
    have k4 : Kp [x] H (upd J4 x (.ins C dx (putF "_hands" (.ref hl) [("_deck", .ref dk), ("_trump", .int p.tr), ("_leader", .int (p.ld : Nat))]))) := j4.chg x3' not_imm_ins (.inl (by simp))
    have x4 : upd J4 x (.ins C dx (putF "_hands" (.ref hl) [("_deck", .ref dk), ("_trump", .int p.tr), ("_leader", .int (p.ld : Nat))])) x = some (.ins C dx [("_deck", .ref dk), ("_trump", .int p.tr), ("_leader", .int (p.ld : Nat)), ("_hands", .ref hl)]) := upd_same
    have fhl : upd J4 x (.ins C dx (putF "_hands" (.ref hl) [("_deck", .ref dk), ("_trump", .int p.tr), ("_leader", .int (p.ld : Nat))])) hl = some (.lst (nts p.hs)) := (upd_ne nhl).trans fhl
    generalize upd J4 x (.ins C dx (putF "_hands" (.ref hl) [("_deck", .ref dk), ("_trump", .int p.tr), ("_leader", .int (p.ld : Nat))])) = H4 at *
    refine ⟨_, rfl, t1, _, rfl, .inr (SqT.of (k4.tk _ _ pt)), fun ll hll => ?_⟩
    have j5 := k4.new (o := .lst (nts p.tk)) hll
    have y5 := Fi.Same.upd_new (Same.refl H4) hll (o := .lst (nts p.tk))
    have fll : upd H4 ll (.lst (nts p.tk)) ll = some (.lst (nts p.tk)) := upd_same
    have nll : ll ≠ x := ne_none x4 hll
    have oll := k4.free hll (by simpa using nll)
    have dllhl : ll ≠ hl := ne_none fhl hll
    have fhl := y5 _ _ fhl
    have x4' := y5 _ _ x4
    generalize upd H4 ll (.lst (nts p.tk)) = J5 at *
    refine ⟨_, rfl, x, C, dx, _, rfl, x4', pc.cls, pc.n5, by show (4 : Nat) < 1000; decide, ?_⟩
    have k5 : Kp [x] H (upd J5 x (.ins C dx (putF "_led" (.ref ll) [("_deck", .ref dk), ("_trump", .int p.tr), ("_leader", .int (p.ld : Nat)), ("_hands", .ref hl)]))) := j5.chg x4' not_imm_ins (.inl (by simp))
    have x5 : upd J5 x (.ins C dx (putF "_led" (.ref ll) [("_deck", .ref dk), ("_trump", .int p.tr), ("_leader", .int (p.ld : Nat)), ("_hands", .ref hl)])) x = some (.ins C dx [("_deck", .ref dk), ("_trump", .int p.tr), ("_leader", .int (p.ld : Nat)), ("_hands", .ref hl), ("_led", .ref ll)]) := upd_same
    have fhl : upd J5 x (.ins C dx (putF "_led" (.ref ll) [("_deck", .ref dk), ("_trump", .int p.tr), ("_leader", .int (p.ld : Nat)), ("_hands", .ref hl)])) hl = some (.lst (nts p.hs)) := (upd_ne nhl).trans fhl
    have fll : upd J5 x (.ins C dx (putF "_led" (.ref ll) [("_deck", .ref dk), ("_trump", .int p.tr), ("_leader", .int (p.ld : Nat)), ("_hands", .ref hl)])) ll = some (.lst (nts p.tk)) := (upd_ne nll).trans fll
    generalize upd J5 x (.ins C dx (putF "_led" (.ref ll) [("_deck", .ref dk), ("_trump", .int p.tr), ("_leader", .int (p.ld : Nat)), ("_hands", .ref hl)])) = H5 at *
    refine ⟨by show (2 : Nat) ≤ sizeLine; decide, fun wl hwl => ?_⟩
    have j6 := k5.new (o := .lst [.int 0, .int 0]) hwl
    have y6 := Fi.Same.upd_new (Same.refl H5) hwl (o := .lst [.int 0, .int 0])
    have fwl : upd H5 wl (.lst [.int 0, .int 0]) wl = some (.lst [.int 0, .int 0]) := upd_same
    have nwl : wl ≠ x := ne_none x5 hwl
    have owl := k5.free hwl (by simpa using nwl)
    have dwlhl : wl ≠ hl := ne_none fhl hwl
    have fhl := y6 _ _ fhl
    have dwlll : wl ≠ ll := ne_none fll hwl
    have fll := y6 _ _ fll
    have x5' := y6 _ _ x5
    generalize upd H5 wl (.lst [.int 0, .int 0]) = J6 at *
    refine ⟨_, rfl, x, C, dx, _, rfl, x5', pc.cls, pc.n6, by show (5 : Nat) < 1000; decide, ?_⟩
    have k6 : Kp [x] H (upd J6 x (.ins C dx (putF "_won" (.ref wl) [("_deck", .ref dk), ("_trump", .int p.tr), ("_leader", .int (p.ld : Nat)), ("_hands", .ref hl), ("_led", .ref ll)]))) := j6.chg x5' not_imm_ins (.inl (by simp))
    have x6 : upd J6 x (.ins C dx (putF "_won" (.ref wl) [("_deck", .ref dk), ("_trump", .int p.tr), ("_leader", .int (p.ld : Nat)), ("_hands", .ref hl), ("_led", .ref ll)])) x = some (.ins C dx [("_deck", .ref dk), ("_trump", .int p.tr), ("_leader", .int (p.ld : Nat)), ("_hands", .ref hl), ("_led", .ref ll), ("_won", .ref wl)]) := upd_same
    have fhl : upd J6 x (.ins C dx (putF "_won" (.ref wl) [("_deck", .ref dk), ("_trump", .int p.tr), ("_leader", .int (p.ld : Nat)), ("_hands", .ref hl), ("_led", .ref ll)])) hl = some (.lst (nts p.hs)) := (upd_ne nhl).trans fhl
    have fll : upd J6 x (.ins C dx (putF "_won" (.ref wl) [("_deck", .ref dk), ("_trump", .int p.tr), ("_leader", .int (p.ld : Nat)), ("_hands", .ref hl), ("_led", .ref ll)])) ll = some (.lst (nts p.tk)) := (upd_ne nll).trans fll
    have fwl : upd J6 x (.ins C dx (putF "_won" (.ref wl) [("_deck", .ref dk), ("_trump", .int p.tr), ("_leader", .int (p.ld : Nat)), ("_hands", .ref hl), ("_led", .ref ll)])) wl = some (.lst [.int 0, .int 0]) := (upd_ne nwl).trans fwl
    generalize upd J6 x (.ins C dx (putF "_won" (.ref wl) [("_deck", .ref dk), ("_trump", .int p.tr), ("_leader", .int (p.ld : Nat)), ("_hands", .ref hl), ("_led", .ref ll)])) = H6 at *
    refine ⟨by show (0 : Nat) ≤ sizeLine; decide, fun il hil => ?_⟩
    have j7 := k6.new (o := .lst []) hil
    have y7 := Fi.Same.upd_new (Same.refl H6) hil (o := .lst [])
    have fil : upd H6 il (.lst []) il = some (.lst []) := upd_same
    have nil' : il ≠ x := ne_none x6 hil
    have oil := k6.free hil (by simpa using nil')
    have dilhl : il ≠ hl := ne_none fhl hil
    have fhl := y7 _ _ fhl
    have dilll : il ≠ ll := ne_none fll hil
    have fll := y7 _ _ fll
    have dilwl : il ≠ wl := ne_none fwl hil
    have fwl := y7 _ _ fwl
    have x6' := y7 _ _ x6
    generalize upd H6 il (.lst []) = J7 at *
    refine ⟨_, rfl, x, C, dx, _, rfl, x6', pc.cls, pc.n7, by show (6 : Nat) < 1000; decide, ?_⟩
    have k7 : Kp [x] H (upd J7 x (.ins C dx (putF "_history" (.ref il) [("_deck", .ref dk), ("_trump", .int p.tr), ("_leader", .int (p.ld : Nat)), ("_hands", .ref hl), ("_led", .ref ll), ("_won", .ref wl)]))) := j7.chg x6' not_imm_ins (.inl (by simp))
    have x7 : upd J7 x (.ins C dx (putF "_history" (.ref il) [("_deck", .ref dk), ("_trump", .int p.tr), ("_leader", .int (p.ld : Nat)), ("_hands", .ref hl), ("_led", .ref ll), ("_won", .ref wl)])) x = some (.ins C dx [("_deck", .ref dk), ("_trump", .int p.tr), ("_leader", .int (p.ld : Nat)), ("_hands", .ref hl), ("_led", .ref ll), ("_won", .ref wl), ("_history", .ref il)]) := upd_same
    have fhl : upd J7 x (.ins C dx (putF "_history" (.ref il) [("_deck", .ref dk), ("_trump", .int p.tr), ("_leader", .int (p.ld : Nat)), ("_hands", .ref hl), ("_led", .ref ll), ("_won", .ref wl)])) hl = some (.lst (nts p.hs)) := (upd_ne nhl).trans fhl
    have fll : upd J7 x (.ins C dx (putF "_history" (.ref il) [("_deck", .ref dk), ("_trump", .int p.tr), ("_leader", .int (p.ld : Nat)), ("_hands", .ref hl), ("_led", .ref ll), ("_won", .ref wl)])) ll = some (.lst (nts p.tk)) := (upd_ne nll).trans fll
    have fwl : upd J7 x (.ins C dx (putF "_history" (.ref il) [("_deck", .ref dk), ("_trump", .int p.tr), ("_leader", .int (p.ld : Nat)), ("_hands", .ref hl), ("_led", .ref ll), ("_won", .ref wl)])) wl = some (.lst [.int 0, .int 0]) := (upd_ne nwl).trans fwl
    have fil : upd J7 x (.ins C dx (putF "_history" (.ref il) [("_deck", .ref dk), ("_trump", .int p.tr), ("_leader", .int (p.ld : Nat)), ("_hands", .ref hl), ("_led", .ref ll), ("_won", .ref wl)])) il = some (.lst []) := (upd_ne nil').trans fil
    generalize upd J7 x (.ins C dx (putF "_history" (.ref il) [("_deck", .ref dk), ("_trump", .int p.tr), ("_leader", .int (p.ld : Nat)), ("_hands", .ref hl), ("_led", .ref ll), ("_won", .ref wl)])) = H7 at *
    refine ⟨by show (0 : Nat) ≤ sizeLine; decide, fun bl hbl => ?_⟩
    have j8 := k7.new (o := .lst []) hbl
    have y8 := Fi.Same.upd_new (Same.refl H7) hbl (o := .lst [])
    have fbl : upd H7 bl (.lst []) bl = some (.lst []) := upd_same
    have nbl : bl ≠ x := ne_none x7 hbl
    have obl := k7.free hbl (by simpa using nbl)
    have dblhl : bl ≠ hl := ne_none fhl hbl
    have fhl := y8 _ _ fhl
    have dblll : bl ≠ ll := ne_none fll hbl
    have fll := y8 _ _ fll
    have dblwl : bl ≠ wl := ne_none fwl hbl
    have fwl := y8 _ _ fwl
    have dblil : bl ≠ il := ne_none fil hbl
    have fil := y8 _ _ fil
    have x7' := y8 _ _ x7
    generalize upd H7 bl (.lst []) = J8 at *
    refine ⟨_, rfl, x, C, dx, _, rfl, x7', pc.cls, pc.n8, by show (7 : Nat) < 1000; decide, ?_⟩
    have k8 : Kp [x] H (upd J8 x (.ins C dx (putF "_before" (.ref bl) [("_deck", .ref dk), ("_trump", .int p.tr), ("_leader", .int (p.ld : Nat)), ("_hands", .ref hl), ("_led", .ref ll), ("_won", .ref wl), ("_history", .ref il)]))) := j8.chg x7' not_imm_ins (.inl (by simp))
    have x8 : upd J8 x (.ins C dx (putF "_before" (.ref bl) [("_deck", .ref dk), ("_trump", .int p.tr), ("_leader", .int (p.ld : Nat)), ("_hands", .ref hl), ("_led", .ref ll), ("_won", .ref wl), ("_history", .ref il)])) x = some (.ins C dx [("_deck", .ref dk), ("_trump", .int p.tr), ("_leader", .int (p.ld : Nat)), ("_hands", .ref hl), ("_led", .ref ll), ("_won", .ref wl), ("_history", .ref il), ("_before", .ref bl)]) := upd_same
    have fhl : upd J8 x (.ins C dx (putF "_before" (.ref bl) [("_deck", .ref dk), ("_trump", .int p.tr), ("_leader", .int (p.ld : Nat)), ("_hands", .ref hl), ("_led", .ref ll), ("_won", .ref wl), ("_history", .ref il)])) hl = some (.lst (nts p.hs)) := (upd_ne nhl).trans fhl
    have fll : upd J8 x (.ins C dx (putF "_before" (.ref bl) [("_deck", .ref dk), ("_trump", .int p.tr), ("_leader", .int (p.ld : Nat)), ("_hands", .ref hl), ("_led", .ref ll), ("_won", .ref wl), ("_history", .ref il)])) ll = some (.lst (nts p.tk)) := (upd_ne nll).trans fll
    have fwl : upd J8 x (.ins C dx (putF "_before" (.ref bl) [("_deck", .ref dk), ("_trump", .int p.tr), ("_leader", .int (p.ld : Nat)), ("_hands", .ref hl), ("_led", .ref ll), ("_won", .ref wl), ("_history", .ref il)])) wl = some (.lst [.int 0, .int 0]) := (upd_ne nwl).trans fwl
    have fil : upd J8 x (.ins C dx (putF "_before" (.ref bl) [("_deck", .ref dk), ("_trump", .int p.tr), ("_leader", .int (p.ld : Nat)), ("_hands", .ref hl), ("_led", .ref ll), ("_won", .ref wl), ("_history", .ref il)])) il = some (.lst []) := (upd_ne nil').trans fil
    have fbl : upd J8 x (.ins C dx (putF "_before" (.ref bl) [("_deck", .ref dk), ("_trump", .int p.tr), ("_leader", .int (p.ld : Nat)), ("_hands", .ref hl), ("_led", .ref ll), ("_won", .ref wl), ("_history", .ref il)])) bl = some (.lst []) := (upd_ne nbl).trans fbl
    generalize upd J8 x (.ins C dx (putF "_before" (.ref bl) [("_deck", .ref dk), ("_trump", .int p.tr), ("_leader", .int (p.ld : Nat)), ("_hands", .ref hl), ("_led", .ref ll), ("_won", .ref wl), ("_history", .ref il)])) = H8 at *
    refine q _ [x, hl, ll, wl, il, bl] ⟨k8, fun y hy => ?_⟩ ⟨g, k8.tk _ _ hd, dx, hl, ll, wl, il, bl, rfl, ?_, x8, fhl, fll, fwl, fil, fbl⟩
    · simp only [List.mem_cons, List.not_mem_nil, or_false] at hy ⊢
      rcases hy with rfl | rfl | rfl | rfl | rfl | rfl
      · exact .inl rfl
      · exact .inr ohl
      · exact .inr oll
      · exact .inr owl
      · exact .inr oil
      · exact .inr obl
    · simp only [List.nodup_cons, List.mem_cons, List.not_mem_nil, or_false, not_or, not_false_eq_true, List.nodup_nil, and_true]
      exact ⟨⟨nhl.symm, nll.symm, nwl.symm, nil'.symm, nbl.symm⟩, ⟨dllhl.symm, dwlhl.symm, dilhl.symm, dblhl.symm⟩, ⟨dwlll.symm, dilll.symm, dblll.symm⟩, ⟨dilwl.symm, dblwl.symm⟩, dblil.symm⟩
end
end Fi
/-! the makers of a play -/
namespace Fi
open PySem PySem.Spec PyProof.Rows L2
def spInit (C : Addr) : Sp := fun vs H Q _ => ∃ (x dx dk hh : Addr) (S R m : Nat) (tr : Int) (hs : List Nat) (ld : Nat), vs = [.ref x, .ref dk, .ref hh, .int tr, .int (ld : Nat)] ∧ H x = some (.ins C dx []) ∧ DeckAt H dk S R ∧ H hh = some (.tup (nts hs)) ∧ DealOk S R hs m ∧ -1 ≤ tr ∧ tr < S ∧
  Good S R (4 * m) ⟨⟨tr, hs, ld, []⟩, 0, 0, [], []⟩ ∧ ∀ H' Y, Mut [x] Y H H' → Pl C x dk Y S R (4 * m) H' ⟨⟨tr, hs, ld, []⟩, 0, 0, [], []⟩ → Q .non H'
def spPlayAt (C : Addr) : Sp := fun vs H Q _ => ∃ (dk b : Addr) (S R n : Nat) (p : Psn), vs = [.ref dk, .ref b] ∧ DeckAt H dk S R ∧ PosAt H b p ∧ Good S R n ⟨p, 0, 0, [], []⟩ ∧
  ∀ H' x Y, Same H H' → (∀ y ∈ Y, H y = none) → Pl C x dk Y S R n H' ⟨p, 0, 0, [], []⟩ → Q (.ref x) H'
/-- a new object is made: what its maker changes was not there -/
theorem made {H H' : Hp} {x dx : Addr} {C : Addr} {Y : List Addr} (hx : H x = none) (hdx : H dx = none) (hne : dx ≠ x) (m : Mut [x] Y (upd (upd H dx (.own x)) x (.ins C dx [])) H') : Same H H' ∧ ∀ y ∈ Y, H y = none := by
  have s1 : Same H (upd (upd H dx (.own x)) x (.ins C dx [])) := Fi.Same.upd_mine (Fi.Same.upd_new (Same.refl H) hdx) hx
  refine ⟨fun a o e => m.1 a o (s1 a o e) (.inl ?_), fun y hy => ?_⟩
  · simp only [List.mem_singleton]
    rintro rfl
    rw [hx] at e; cases e
  · rcases m.2 y hy with q | q
    · rw [List.mem_singleton.mp q]; exact hx
    · cases z : H y with
      | none => rfl
      | some o => have := s1 y o z; rw [q] at this; cases this
section
variable {P : Program} {w : World} {K : PySem.W.Frag} {mg : Str → Option Value} {base : Heap} {C : Addr}
theorem sc_Play_init : FnScope ["self", "deck", "hands", "trump", "leader"] ["self", "deck", "hands", "trump", "leader"] (defScope (inClass (top 22) 0)) := ⟨rfl, rfl, rfl, by decide +kernel, rfl, by decide +kernel, by decide +kernel⟩
theorem ok_Play_init (E : EntC K mg C "Play" "Play.__init__" (inClass (top 22) 0)) (pc : PlC K C) (T : Txt K mg) (M_begin : ∀ base, Mt P w K mg base C 1 "begin" ["self", "deck", "position"] (spBegin C)) (D_check_deal : ∀ base, Df P w K mg base 3 "check_deal" ["deck", "hands"] spCheckDeal) :
    Mc P w K mg base C 4 "Play" ["self", "deck", "hands", "trump", "leader"] (spInit C) := by
  refine mc_mk E sc_Play_init (fun _ _ _ _ _ _ us hl => match us, hl with | [_, _, _, _, _], _ => rfl) (fun vs H Q E h => ?_) (fun f cdv A outer s H vs Q E hr h => ?_)
  · obtain ⟨x, dx, dk, hh, S, R, m, tr, hs, ld, rfl, _⟩ := h; rfl
  · obtain ⟨x, dx, dk, hh, S, R, m, tr, hs, ld, rfl, hx, hd, hth, ok, tr1, tr2, g, q⟩ := h
    refine ⟨_, (pss_cons (ps_expr (pe_cd (D_check_deal _) hr rfl (pa_cons (pv 1) (pa_cons (pv 2) pa_nil))))
      (pss_cons (ps_if (pt_not (pt_chain op_le op_lt (pe_un un_neg pe_int) (pv 3) (pe_ix ix_tup (pv 1) pe_int (fun _ _ => rfl)))) (pss_one ps_never) pss_nil)
      (pss_one (ps_expr (pe_md (pv 0) pc.cls ((M_begin _).mono (by decide)) hr (pa_cons (pv 1) (pa_cons (pe_tup (pa_cons (pv 3) (pa_cons (pe_callTy call_tuple_of rfl T.f_tuple (by decide +kernel) (pa_cons (pv 2) pa_nil)) (pa_cons (pv 4) (pa_cons (pe_tup pa_nil) pa_nil))))) pa_nil))))))), ?_⟩
    refine ⟨_, rfl, _, rfl, dk, hh, S, R, hs, m, rfl, hd, hth, ok, fun H1 s1 => ?_⟩
    refine ⟨_, rfl, _, rfl, _, _, rfl, rfl, true, congrArg V.bl (decide_eq_true tr1), iteT ?_⟩
    refine ⟨_, rfl, dk, _, _, _, rfl, rfl, SqT.of (s1 _ _ hd), at_of (j := 0) rfl rfl, _, _, rfl, rfl, true, congrArg V.bl (decide_eq_true tr2), iteF ?_⟩
    refine ⟨_, rfl, x, dx, _, rfl, s1 _ _ hx, rfl, _, rfl, _, rfl, _, rfl, hh, _, rfl, .inr ⟨SqT.of (s1 _ _ hth), _, rfl, by show (0 : Nat) ≤ sizeLine; decide, fun e he => ?_⟩⟩
    have s2 := Fi.Same.upd_new (Same.refl H1) he (o := .tup [])
    have ee : upd H1 e (.tup []) e = some (.tup []) := upd_same
    generalize upd H1 e (.tup []) = H2 at *
    refine ⟨by show (4 : Nat) ≤ sizeLine; decide, fun b hb => ?_⟩
    have s3 := Fi.Same.upd_new (Same.refl H2) hb (o := .tup [.int tr, .ref hh, .int (ld : Nat), .ref e])
    have eb : upd H2 b (.tup [.int tr, .ref hh, .int (ld : Nat), .ref e]) b = some (.tup [.int tr, .ref hh, .int (ld : Nat), .ref e]) := upd_same
    generalize upd H2 b (.tup [.int tr, .ref hh, .int (ld : Nat), .ref e]) = H3 at *
    have s13 := s1.trans (s2.trans s3)
    refine ⟨x, dx, dk, b, S, R, 4 * m, ⟨tr, hs, ld, []⟩, rfl, s13 _ _ hx, s13 _ _ hd, ⟨hh, e, eb, s13 _ _ hth, s3 _ _ ee⟩, g, fun H' Y mt pl => q H' Y ⟨(Kp.same s13).trans mt.1 (fun z hz => .inl hz), fun y hy => ?_⟩ pl⟩
    rcases mt.2 y hy with z | z
    · exact .inl z
    · refine .inr ?_
      cases z' : H y with
      | none => rfl
      | some o => have := s13 y o z'; rw [z] at this; cases this
theorem sc_Later_init : FnScope ["self", "deck", "position"] ["self", "deck", "position"] (defScope (inClass (top 23) 0)) := ⟨rfl, rfl, rfl, by decide +kernel, rfl, by decide +kernel, by decide +kernel⟩
theorem ok_Later_init (E : EntC K mg C "Later" "Later.__init__" (inClass (top 23) 0)) (pc : PlC K C) (M_begin : ∀ base, Mt P w K mg base C 1 "begin" ["self", "deck", "position"] (spBegin C)) :
    Mc P w K mg base C 2 "Later" ["self", "deck", "position"] (spBegin C) := by
  refine mc_mk E sc_Later_init (fun _ _ _ _ _ _ us hl => match us, hl with | [_, _, _], _ => rfl) (fun vs H Q E h => ?_) (fun f cdv A outer s H vs Q E hr h => ?_)
  · obtain ⟨x, dx, dk, b, S, R, n, p, rfl, _⟩ := h; rfl
  · obtain ⟨x, dx, dk, b, S, R, n, p, rfl, hx, hd, pb, g, q⟩ := h
    refine ⟨_, (pss_one (ps_expr (pe_md (pv 0) pc.cls (M_begin _) hr (pa_cons (pv 1) (pa_cons (pv 2) pa_nil))))), ?_⟩
    exact ⟨_, rfl, x, dx, _, rfl, hx, rfl, _, rfl, _, rfl, x, dx, dk, b, S, R, n, p, rfl, hx, hd, pb, g, q⟩
theorem sc_play_at : FnScope ["deck", "position"] ["deck", "position"] (defScope (top 24)) := ⟨rfl, rfl, rfl, by decide +kernel, rfl, by decide +kernel, by decide +kernel⟩
theorem ok_play_at (E : EntF K mg "play_at" (top 24)) (N_Later : ∀ base, Mc P w K mg base C 2 "Later" ["self", "deck", "position"] (spBegin C)) : Df P w K mg base 4 "play_at" ["deck", "position"] (spPlayAt C) := by
  refine df_mk E sc_play_at (fun _ _ _ _ _ _ us hl => match us, hl with | [_, _], _ => rfl) (fun vs H Q E h => ?_) (fun f cdv A outer s H vs Q E hr h => ?_)
  · obtain ⟨dk, b, S, R, n, p, rfl, _⟩ := h; rfl
  · obtain ⟨dk, b, S, R, n, p, rfl, hd, pb, g, q⟩ := h
    refine ⟨_, (pss_one (ps_ret (pe_nd (N_Later _) hr rfl (pa_cons (pv 0) (pa_cons (pv 1) pa_nil))))), ?_⟩
    refine ⟨_, rfl, _, rfl, fun x dx hx hdx hne => ?_⟩
    have s1 : Same H (upd (upd H dx (.own x)) x (.ins C dx [])) := Fi.Same.upd_mine (Fi.Same.upd_new (Same.refl H) hdx) hx
    refine ⟨x, dx, dk, b, S, R, n, p, rfl, upd_same, s1 _ _ hd, pb.mono (fun a xs e => s1 a _ e), g, fun H' Y m pl => ⟨rfl, ?_⟩⟩
    obtain ⟨a, b'⟩ := made hx hdx hne m
    exact q H' x Y a b' pl
end
end Fi
/-! dicts of our own keys -/
namespace Fi
open PySem PySem.Spec PyProof.Rows L2
section
variable {α β : Type} [DecidableEq α] {kf : α → NestedKey} {vf : β → V}
def gd (kf : α → NestedKey) (vf : β → V) (l : List (α × β)) : List (NestedKey × V) := l.map fun e => (kf e.1, vf e.2)
def glook (l : List (α × β)) (a : α) : Option β := (l.find? fun e => decide (e.1 = a)).map (·.2)
def gput (l : List (α × β)) (a : α) (b : β) : List (α × β) := if (l.any fun e => decide (e.1 = a)) = true then l.map (fun e => if e.1 = a then (e.1, b) else e) else l ++ [(a, b)]
theorem gd_val (inj : ∀ a b, kf a = kf b → a = b) (a : α) : ∀ l : List (α × β), valV (gd kf vf l) (kf a) = (glook l a).map vf
  | [] => rfl
  | e :: l => by
    unfold gd glook
    rw [List.map_cons, List.find?_cons]
    by_cases h : e.1 = a
    · rw [valV_pos (p := (kf e.1, vf e.2)) (congrArg kf h), decide_eq_true h]; rfl
    · rw [valV_neg (p := (kf e.1, vf e.2)) (fun z => h (inj _ _ z)), decide_eq_false h]
      exact gd_val inj a l
theorem gd_put (inj : ∀ a b, kf a = kf b → a = b) (a : α) (b : β) (l : List (α × β)) : gd kf vf (gput l a b) = putK (gd kf vf l) (kf a) (vf b) := by
  have e : ((gd kf vf l).any fun kv => decide (kv.1 = kf a)) = l.any fun e => decide (e.1 = a) := by
    unfold gd
    rw [List.any_map]
    congr 1
    funext e
    show decide (kf e.1 = kf a) = decide (e.1 = a)
    exact decide_eq_decide.mpr ⟨fun z => inj _ _ z, fun z => congrArg kf z⟩
  unfold gput putK
  rw [e]
  split
  · unfold gd
    rw [List.map_map, List.map_map]
    refine List.map_congr_left fun e _ => ?_
    show (kf (if e.1 = a then (e.1, b) else e).1, vf (if e.1 = a then (e.1, b) else e).2) = if kf e.1 = kf a then (kf e.1, vf b) else (kf e.1, vf e.2)
    by_cases h : e.1 = a
    · rw [if_pos h, if_pos (congrArg kf h)]
    · rw [if_neg h, if_neg (fun z => h (inj _ _ z))]
  · unfold gd
    rw [List.map_append]; rfl
theorem mem_gput {l : List (α × β)} {a : α} {b : β} {e : α × β} (h : e ∈ gput l a b) : e ∈ l ∨ e = (a, b) := by
  unfold gput at h
  split at h
  · obtain ⟨x, hx, rfl⟩ := List.mem_map.mp h
    by_cases q : x.1 = a
    · rw [if_pos q, q]; exact .inr rfl
    · rw [if_neg q]; exact .inl hx
  · rcases List.mem_append.mp h with q | q
    · exact .inl q
    · exact .inr (List.mem_singleton.mp q)
theorem gput_len (l : List (α × β)) (a : α) (b : β) : (gput l a b).length ≤ l.length + 1 := by
  unfold gput
  split
  · rw [List.length_map]; omega
  · rw [List.length_append, List.length_singleton]; omega
theorem glook_mem {l : List (α × β)} {a : α} {b : β} (h : glook l a = some b) : (a, b) ∈ l := by
  unfold glook at h
  cases e : l.find? fun e => decide (e.1 = a) with
  | none => rw [e] at h; cases h
  | some x =>
    rw [e] at h
    have h1 := List.mem_of_find?_eq_some e
    have h2 := List.find?_some e
    have h3 : x.1 = a := of_decide_eq_true h2
    have h4 : x.2 = b := Option.some.inj h
    rw [← h3, ← h4]; exact h1
theorem glook_pos {e : α × β} {l : List (α × β)} {a : α} (h : e.1 = a) : glook (e :: l) a = some e.2 := by unfold glook; rw [List.find?_cons, decide_eq_true h]; rfl
theorem glook_neg {e : α × β} {l : List (α × β)} {a : α} (h : ¬ e.1 = a) : glook (e :: l) a = glook l a := by unfold glook; rw [List.find?_cons, decide_eq_false h]
theorem glook_map (a : α) (b : β) (c : α) : ∀ l : List (α × β), glook (l.map fun e => if e.1 = a then (e.1, b) else e) c = (glook l c).map fun x => if c = a then b else x
  | [] => rfl
  | e :: l => by
    rw [List.map_cons]
    have e1 : (if e.1 = a then (e.1, b) else e).1 = e.1 := by split <;> rfl
    by_cases h : e.1 = c
    · rw [glook_pos (e1.trans h), glook_pos h]
      show some _ = some _
      congr 1
      by_cases q : e.1 = a
      · rw [if_pos q]; exact (if_pos (h.symm.trans q)).symm
      · rw [if_neg q]; exact (if_neg (fun z => q (h.trans z))).symm
    · rw [glook_neg (fun z => h (e1.symm.trans z)), glook_neg h]
      exact glook_map a b c l
theorem glook_any (a : α) : ∀ l : List (α × β), (l.any fun e => decide (e.1 = a)) = (glook l a).isSome
  | [] => rfl
  | e :: l => by
    rw [List.any_cons]
    by_cases h : e.1 = a
    · rw [glook_pos h, decide_eq_true h]; rfl
    · rw [glook_neg h, decide_eq_false h, Bool.false_or]; exact glook_any a l
theorem glook_snoc (a : α) (b : β) (c : α) : ∀ l : List (α × β), glook l a = none → glook (l ++ [(a, b)]) c = if c = a then some b else glook l c
  | [], _ => by
    by_cases h : c = a
    · rw [if_pos h]; exact glook_pos (e := (a, b)) h.symm
    · rw [if_neg h]; exact glook_neg (e := (a, b)) (Ne.symm h)
  | e :: l, hn => by
    have he : ¬ e.1 = a := fun z => by rw [glook_pos z] at hn; cases hn
    rw [glook_neg he] at hn
    rw [List.cons_append]
    by_cases h : e.1 = c
    · rw [glook_pos h, glook_pos h, if_neg (fun z => he (h.trans z))]
    · rw [glook_neg h, glook_neg h]; exact glook_snoc a b c l hn
theorem glook_put (l : List (α × β)) (a : α) (b : β) (c : α) : glook (gput l a b) c = if c = a then some b else glook l c := by
  unfold gput
  by_cases q : (l.any fun e => decide (e.1 = a)) = true
  · rw [if_pos q, glook_map]
    rw [glook_any] at q
    by_cases h : c = a
    · subst h
      rw [if_pos rfl]
      cases z : glook l c with
      | none => rw [z] at q; cases q
      | some x => simp
    · simp only [if_neg h]
      cases glook l c <;> rfl
  · rw [if_neg q]
    refine glook_snoc a b c l ?_
    rw [glook_any] at q
    cases z : glook l a with
    | none => rfl
    | some x => rw [z] at q; exact absurd rfl q
theorem glook_in {l : List (α × β)} {a : α} {b : β} (h : (a, b) ∈ l) : ∃ c, glook l a = some c := by
  have q : (l.any fun e => decide (e.1 = a)) = true := List.any_eq_true.mpr ⟨_, h, decide_eq_true rfl⟩
  rw [glook_any] at q
  exact Option.isSome_iff_exists.mp q
theorem gd_len (l : List (α × β)) : (gd kf vf l).length = l.length := List.length_map ..
theorem le_size {n : Nat} (h : n ≤ 1000000) : n < sizeLine := Nat.lt_of_le_of_lt h (by decide)
end
end Fi
/-! the solver -/
namespace Fi
open PySem PySem.Spec PyProof.Rows L2
abbrev Known := List (Psn × Int)
def kdict (k : Known) : List (NestedKey × V) := gd nkey V.int k
def KnOk (R : Nat) (k : Known) : Prop := ∀ e ∈ k, ∃ m, Wf m e.1 ∧ e.2 = S0 R m e.1
theorem KnOk.look {R n : Nat} {k : Known} {p : Psn} {v : Int} (h : KnOk R k) (l : glook k p = some v) (w : Wf n p) : v = S0 R n p := by
  obtain ⟨m, w', e⟩ := h _ (glook_mem l)
  have : m = n := w'.inj w
  rw [← this]; exact e
theorem KnOk.put {R n : Nat} {k : Known} {p : Psn} (h : KnOk R k) (w : Wf n p) : KnOk R (gput k p (S0 R n p)) := fun e he => by
  rcases mem_gput he with q | q
  · exact h e q
  · rw [q]; exact ⟨n, w, rfl⟩
structure SoC (K : PySem.W.Frag) (C : Addr) : Prop where
  cls : Cls K C
  n1 : NoAttr K C "deck"
  n2 : NoAttr K C "known"
structure SolAt (w : World) (CS sx dk kn : Addr) (S R : Nat) (H : Hp) (k : Known) : Prop where
  ob : ∃ dx, H sx = some (.ins CS dx [("deck", .ref dk), ("known", .ref kn)])
  dn : DN w H kn (kdict k)
  ok : KnOk R k
theorem DN.is {w : World} {H : Hp} {a : Addr} {kvs : List (NestedKey × V)} (d : DN w H a kvs) : ∃ φ, H a = some (.ext φ) := by
  obtain ⟨xs, e, _⟩ := d
  exact ⟨_, e⟩
theorem notPK_ext {φ : Heap → Prop} : ¬ PKind (.ext φ) := by
  rintro (⟨_, h⟩ | ⟨_, _, _, _, h⟩) <;> cases h
theorem notPK_dK {kvs : List (Key × V)} : ¬ PKind (.dK kvs) := by
  rintro (⟨_, h⟩ | ⟨_, _, _, _, h⟩) <;> cases h
theorem notPK_ins {C dx : Addr} {f : Str} {v : V} {r : List (Str × V)} (h : f ≠ "_deck") : ¬ PKind (.ins C dx ((f, v) :: r)) := by
  rintro (⟨_, e⟩ | ⟨_, _, _, _, e⟩)
  · cases e
  · injection e with _ _ e
    injection e with e _
    injection e with e _
    exact h e
theorem deck_ne : ("deck" : Str) ≠ "_deck" := by decide
section
variable {w : World} {CS sx dk kn : Addr} {S R : Nat} {H H' : Hp} {k : Known}
theorem SolAt.kp {Z : List Addr} (a : SolAt w CS sx dk kn S R H k) (t : Kp Z H H') (h1 : sx ∉ Z) (h2 : kn ∉ Z) : SolAt w CS sx dk kn S R H' k := by
  obtain ⟨dx, e⟩ := a.ob
  exact ⟨⟨dx, t.at e h1⟩, a.dn.keep t.tk (fun o e => t.at e h2), a.ok⟩
theorem SolAt.same (a : SolAt w CS sx dk kn S R H k) (t : Same H H') : SolAt w CS sx dk kn S R H' k := a.kp (Z := []) (Kp.same t) (by simp) (by simp)
theorem SolAt.out {C x dk' : Addr} {Y : List Addr} {n : Nat} {s : PS} (a : SolAt w CS sx dk kn S R H k) (pl : Pl C x dk' Y S R n H s) : sx ∉ Y ∧ kn ∉ Y := by
  obtain ⟨dx, e⟩ := a.ob
  obtain ⟨φ, e2⟩ := a.dn.is
  exact ⟨pl.out e (notPK_ins deck_ne), pl.out e2 notPK_ext⟩
theorem SolAt.play {C x dk' : Addr} {Y : List Addr} {n : Nat} {s : PS} (a : SolAt w CS sx dk kn S R H k) (pl : Pl C x dk' Y S R n H s) (t : Kp Y H H') : SolAt w CS sx dk kn S R H' k := a.kp t (a.out pl).1 (a.out pl).2
theorem SolAt.ne (a : SolAt w CS sx dk kn S R H k) : sx ≠ kn := by
  obtain ⟨dx, e⟩ := a.ob
  obtain ⟨φ, e2⟩ := a.dn.is
  exact ne_of e e2 (by intro h; cases h)
end
theorem not_imm_ext {φ : Heap → Prop} : ¬ Imm (.ext φ) := id
theorem not_imm_dK {kvs : List (Key × V)} : ¬ Imm (.dK kvs) := id

/-! ### promises -/
def va (R : Nat) : Nat → Psn → Nat → Int
  | 0, _, _ => 0
  | n + 1, p, c => v0 R n p c
def foundD (l : List Nat) (f : Nat → Int) : List (Key × V) := l.map fun (c : Nat) => ((.inl (c : Nat) : Key), V.int (f c))
def spSolInit (w : World) (CS : Addr) : Sp := fun vs H Q _ => ∃ (sx dx dk : Addr) (S R : Nat), vs = [.ref sx, .ref dk] ∧ H sx = some (.ins CS dx []) ∧
  ∀ H' kn, Kp [sx] H H' → H kn = none → SolAt w CS sx dk kn S R H' [] → Q .non H'
def spShare (w : World) (CS CP : Addr) (n : Nat) : Sp := fun vs H Q _ => ∃ (sx x dk dk' kn : Addr) (Y : List Addr) (S R : Nat) (s : PS) (k : Known), vs = [.ref sx, .ref x] ∧ Pl CP x dk Y S R n H s ∧ SolAt w CS sx dk' kn S R H k ∧ k.length + Bn n ≤ 1000000 ∧
  ∀ H' Y' k', Mut (kn :: Y) (kn :: Y') H H' → Pl CP x dk Y' S R n H' s → SolAt w CS sx dk' kn S R H' k' → k'.length ≤ k.length + Bn n → Q (.int (S0 R n s.p)) H'
def spAfter (w : World) (CS CP : Addr) (n : Nat) : Sp := fun vs H Q _ => ∃ (sx x dk dk' kn : Addr) (Y : List Addr) (S R : Nat) (s : PS) (k : Known), vs = [.ref sx, .ref x] ∧ Pl CP x dk Y S R n H s ∧ SolAt w CS sx dk' kn S R H k ∧ k.length + Bn n ≤ 1000000 ∧
  ∀ H' Y' k' d, Mut (kn :: Y) (kn :: Y') H H' → Pl CP x dk Y' S R n H' s → SolAt w CS sx dk' kn S R H' k' → k'.length + 1 ≤ k.length + Bn n → H d = none → H' d = some (.dK (foundD (legal R s.p) (va R n s.p))) → Q (.ref d) H'
section
variable {P : Program} {w : World} {K : PySem.W.Frag} {mg : Str → Option Value} {base : Heap} {CS CP : Addr}
theorem sc_Solver_init : FnScope ["self", "deck"] ["self", "deck"] (defScope (inClass (top 26) 0)) := ⟨rfl, rfl, rfl, by decide +kernel, rfl, by decide +kernel, by decide +kernel⟩
theorem ok_Solver_init (E : EntC K mg CS "Solver" "Solver.__init__" (inClass (top 26) 0)) (sc : SoC K CS) : Mc P w K mg base CS 1 "Solver" ["self", "deck"] (spSolInit w CS) := by
  refine mc_mk E sc_Solver_init (fun _ _ _ _ _ _ us hl => match us, hl with | [_, _], _ => rfl) (fun vs H Q E h => ?_) (fun f cdv A outer s H vs Q E hr h => ?_)
  · obtain ⟨sx, dx, dk, S, R, rfl, _⟩ := h; rfl
  · obtain ⟨sx, dx, dk, S, R, rfl, hx, q⟩ := h
    refine ⟨_, (pss_cons (ps_fld (pv 0) (pv 1) rfl)
      (pss_one (ps_fld (pv 0) pe_nnew rfl))), ?_⟩
    refine ⟨_, rfl, _, rfl, sx, CS, dx, _, rfl, hx, sc.cls, sc.n1, by show (0 : Nat) < 1000; decide, ?_⟩
    have k1 : Kp [sx] H (upd H sx (.ins CS dx (putF "deck" (.ref dk) []))) := (Kp.refl [sx] H).chg hx not_imm_ins (.inl (by simp))
    have x1 : upd H sx (.ins CS dx (putF "deck" (.ref dk) [])) sx = some (.ins CS dx [("deck", .ref dk)]) := upd_same
    generalize upd H sx (.ins CS dx (putF "deck" (.ref dk) [])) = H1 at *
    intro kn o hk dn
    have nk : kn ≠ sx := ne_none x1 hk
    have k2 := k1.new (o := o) hk
    have x2 := (upd_ne (o := o) nk.symm).trans x1
    generalize upd H1 kn o = H2 at *
    refine ⟨_, rfl, sx, CS, dx, _, rfl, x2, sc.cls, sc.n2, by show (1 : Nat) < 1000; decide, ?_⟩
    have k3 : Kp [sx] H2 (upd H2 sx (.ins CS dx (putF "known" (.ref kn) [("deck", .ref dk)]))) := (Kp.refl [sx] H2).chg x2 not_imm_ins (.inl (by simp))
    refine q _ kn (k2.trans k3 (fun z hz => .inl hz)) (k1.free hk (by simpa using nk)) ⟨⟨dx, upd_same⟩, dn.keep k3.tk (fun o e => k3.at e (by simpa using nk)), fun e he => by cases he⟩
end
end Fi
/-! share and after: by the cards in the hands -/
namespace Fi
open PySem PySem.Spec PyProof.Rows L2
structure PlayM (P : Program) (w : World) (K : PySem.W.Frag) (mg : Str → Option Value) (C : Addr) : Prop where
  pc : PlC K C
  deck : ∀ base, Mt P w K mg base C 1 "deck" ["self"] (spDeck C)
  is_over : ∀ base, Mt P w K mg base C 1 "is_over" ["self"] (spOver C)
  turn : ∀ base, Mt P w K mg base C 2 "turn" ["self"] (spTurn C)
  legal : ∀ base, Mt P w K mg base C 2 "legal" ["self"] (spLegal C)
  put : ∀ base, Mt P w K mg base C 3 "put" ["self", "card"] (spPut C)
  take_back : ∀ base, Mt P w K mg base C 1 "take_back" ["self"] (spTake C)
  tricks : ∀ base, Mt P w K mg base C 1 "tricks" ["self", "side"] (spTricks C)
  left : ∀ base, Mt P w K mg base C 2 "left" ["self"] (spLeft C)
  position : ∀ base, Mt P w K mg base C 1 "position" ["self"] (spPosition C)
theorem Pl.ob {C x dk : Addr} {Y : List Addr} {S R n : Nat} {H : Hp} {s : PS} (h : Pl C x dk Y S R n H s) : ∃ dx hl ll wl il bl, H x = some (.ins C dx (fsP dk s.p.tr s.p.ld hl ll wl il bl)) := by
  obtain ⟨_, _, dx, hl, ll, wl, il, bl, _, _, h1, _⟩ := h
  exact ⟨_, _, _, _, _, _, h1⟩
theorem SolAt.put {w : World} {CS sx dk kn : Addr} {S R n : Nat} {H : Hp} {k : Known} {p : Psn} {o : HO} (a : SolAt w CS sx dk kn S R H k) (wf : Wf n p) (d : DN w (upd H kn o) kn (putK (kdict k) (nkey p) (.int (S0 R n p)))) : SolAt w CS sx dk kn S R (upd H kn o) (gput k p (S0 R n p)) := by
  obtain ⟨dx, e⟩ := a.ob
  refine ⟨⟨dx, (upd_ne a.ne).trans e⟩, ?_, a.ok.put wf⟩
  unfold kdict
  rw [gd_put (fun _ _ => nkey_inj)]
  exact d
theorem foundD_vals (l : List Nat) (f : Nat → Int) : (foundD l f).map (·.2) = (l.map f).map V.int := by
  unfold foundD; rw [List.map_map, List.map_map]; rfl
theorem len_foundD (l : List Nat) (f : Nat → Int) : (foundD l f).length = l.length := List.length_map ..
section
variable {P : Program} {w : World} {K : PySem.W.Frag} {mg : Str → Option Value} {base : Heap} {CS CP : Addr} {n : Nat}
theorem sc_Solver_share : FnScope ["self", "play", "position", "found", "is_first"] ["self", "play"] (defScope (inClass (top 26) 1)) := ⟨rfl, rfl, rfl, by decide +kernel, rfl, by decide +kernel, by decide +kernel⟩
theorem ok_Solver_share (E : EntM K CS "share" "Solver.share" (inClass (top 26) 1)) (sc : SoC K CS) (M : PlayM P w K mg CP) (T : Txt K mg) (D_side_of : ∀ base, Df P w K mg base 1 "side_of" ["player"] spSide)
    (M_after : ∀ base, Mt P w K mg base CS (5 + 2 * n) "after" ["self", "play"] (spAfter w CS CP n)) : Mt P w K mg base CS (6 + 2 * n) "share" ["self", "play"] (spShare w CS CP n) := by
  rw [show 6 + 2 * n = (5 + 2 * n) + 1 by omega]
  refine mt_mk E sc_Solver_share (fun _ _ _ _ _ _ us hl => match us, hl with | [_, _], _ => rfl) (fun vs H Q E h => ?_) (fun f cdv A outer s H vs Q E hr h => ?_)
  · obtain ⟨sx, x, dk, dk', kn, Y, S, R, s, k, rfl, _⟩ := h; rfl
  · obtain ⟨sx, x, dk, dk', kn, Y, S, R, st, k, rfl, pl, so, cap, q⟩ := h
    refine ⟨_, (pss_cons (ps_set (i := 2) sc_Solver_share.nd rfl (Or.inl rfl) (pe_md0 (pv 1) M.pc.cls ((M.position _).mono (by omega)) hr))
      (pss_cons (ps_if (pt_cmp (pc_nnotin hr.units (pv 2) (pe_fld (pv 0) rfl))) (pss_cons (ps_set (i := 3) sc_Solver_share.nd rfl (Or.inl rfl) (pe_md (pv 0) sc.cls (M_after _) hr (pa_cons (pv 1) pa_nil)))
      (pss_one (ps_if (pt_cmpR op_eq (pe_callB call_lenD rfl T.f_len PySem.boot_len (pa_cons (pv 3) pa_nil)) pe_int (nomark _)) (pss_one (ps_nput hr.units (pe_fld (pv 0) rfl) (pv 2) pe_int rfl)) (pss_cons (ps_set (i := 4) sc_Solver_share.nd rfl (Or.inl rfl) (pe_cmpR op_eq (pe_cd ((D_side_of _).mono (by omega)) hr rfl (pa_cons (pe_md0 (pv 1) M.pc.cls ((M.turn _).mono (by omega)) hr) pa_nil)) pe_int (nomark _)))
      (pss_one (ps_nput hr.units (pe_fld (pv 0) rfl) (pv 2) (pe_ifExp (pt_val (pv 4)) (pe_callB (cr_maxV rfl) rfl T.f_max (by decide +kernel) (pa_cons (pe_values (pv 3)) pa_nil)) (pe_callB (cr_minV rfl) rfl T.f_min (by decide +kernel) (pa_cons (pe_values (pv 3)) pa_nil))) rfl)))))) pss_nil)
      (pss_one (ps_ret (pe_nget hr.units (pe_fld (pv 0) rfl) (pv 2) (fun _ _ => rfl)))))), ?_⟩
    obtain ⟨dxp, hl, ll, wl, il, bl, hx⟩ := pl.ob
    refine ⟨_, rfl, x, _, _, rfl, hx, rfl, x, dk, Y, S, R, n, st, rfl, pl, fun b H1 s1 hb pb => ?_⟩
    have so1 := so.same s1
    have pl1 := pl.same s1
    obtain ⟨dxs, hs⟩ := so1.ob
    refine ⟨_, rfl, _, rfl, sx, CS, _, _, _, rfl, hs, sc.cls, sc.n2, rfl, kn, b, nkey st.p, _, rfl, pb.key, so1.dn, ?_⟩
    have ev : valV (kdict k) (nkey st.p) = (glook k st.p).map V.int := gd_val (fun _ _ => nkey_inj) st.p k
    rw [ev]
    -- the last line, once the value is known
    have fin : ∀ (H2 : Hp) (Y2 : List Addr) (k2 : Known), Mut (kn :: Y) (kn :: Y2) H H2 → Pl CP x dk Y2 S R n H2 st → SolAt w CS sx dk' kn S R H2 k2 → k2.length ≤ k.length + Bn n → PosAt H2 b st.p → glook k2 st.p = some (S0 R n st.p) →
        ∃ a b' kk kvs v, V.ref kn = .ref a ∧ KeyAt H2 (.ref b) b' kk ∧ DN w H2 a kvs ∧ valV kvs kk = some v ∧ Q v H2 := fun H2 Y2 k2 m2 pl2 so2 c2 pb2 l2 =>
      ⟨kn, b, nkey st.p, _, _, rfl, pb2.key, so2.dn, (gd_val (fun _ _ => nkey_inj) st.p k2).trans (by rw [l2]; rfl), q _ _ _ m2 pl2 so2 c2⟩
    cases el : glook k st.p with
    | some v =>
      refine ⟨false, rfl, iteF ?_⟩
      have e := so.ok.look el pl.1.wf
      refine ⟨_, rfl, sx, CS, _, _, _, rfl, hs, sc.cls, sc.n2, rfl, _, rfl, ?_⟩
      rw [e] at el
      exact fin H1 Y k (.same s1) pl1 so1 (by omega) pb el
    | none =>
      refine ⟨true, rfl, iteT ?_⟩
      refine ⟨_, rfl, sx, _, _, rfl, hs, rfl, _, rfl, sx, x, dk, dk', kn, Y, S, R, st, k, rfl, pl1, so1, cap, fun H2 Y2 k2 d m2 pl2 so2 c2 hd0 hd => ?_⟩
      have pb2 := pb.mono m2.1.tk
      obtain ⟨dxs2, hs2⟩ := so2.ob
      have mm : Mut (kn :: Y) (kn :: Y2) H H2 := (Mut.same s1).trans m2
      -- after the entry is written
      have fin2 : ∀ (H3 : Hp), Same H2 H3 → ∀ o, DN w (upd H3 kn o) kn (putK (kdict k2) (nkey st.p) (.int (S0 R n st.p))) →
          ∃ a b' kk kvs v, V.ref kn = .ref a ∧ KeyAt (upd H3 kn o) (.ref b) b' kk ∧ DN w (upd H3 kn o) a kvs ∧ valV kvs kk = some v ∧ Q v (upd H3 kn o) := fun H3 s3 o d3 => by
        have so3 := so2.same s3
        obtain ⟨φ, ek⟩ := so3.dn.is
        have k4 : Kp [kn] H3 (upd H3 kn o) := (Kp.refl [kn] H3).chg ek not_imm_ext (.inl (by simp))
        have m4 : Mut (kn :: Y2) (kn :: Y2) H3 (upd H3 kn o) := ⟨k4.mono fun y hy => .inl (by rw [List.mem_singleton.mp hy]; exact List.mem_cons_self ..), fun y hy => .inl hy⟩
        refine fin _ Y2 _ ((mm.trans (.same s3)).trans m4) ((pl2.same s3).kp k4 fun y hy => ?_) (so3.put pl.1.wf d3) ?_ ((pb2.mono (fun a xs e => s3 a _ e)).mono k4.tk) ?_
        · rw [List.mem_singleton]
          rintro rfl
          exact (so3.out (pl2.same s3)).2 hy
        · have := gput_len k2 st.p (S0 R n st.p)
          omega
        · rw [glook_put, if_pos rfl]
      refine ⟨_, rfl, d, _, rfl, hd, ?_⟩
      rw [len_foundD]
      have wf := pl.1.wf
      have r1 := pl.1.r1
      cases n with
      | zero =>
        have e0 : legal R st.p = [] := wf.legal_nil.mpr rfl
        rw [e0]
        refine ⟨rfl, true, b_eqT rfl, iteT ?_⟩
        refine ⟨_, rfl, sx, CS, _, _, _, rfl, hs2, sc.cls, sc.n2, rfl, _, rfl, kn, b, nkey st.p, _, rfl, pb2.key, so2.dn, le_size (by unfold kdict; rw [gd_len]; omega), fun o d3 => ?_⟩
        exact ⟨_, rfl, sx, CS, _, _, _, rfl, (upd_ne so2.ne).trans hs2, sc.cls, sc.n2, rfl, _, rfl, fin2 H2 (Same.refl H2) o d3⟩
      | succ n =>
        have hne := legal_ne (R := R) wf
        have hpos : 0 < (legal R st.p).length := List.length_pos_iff.mpr hne
        refine ⟨rfl, false, b_eqF (by omega), iteF ?_⟩
        obtain ⟨dxp2, hl2, ll2, wl2, il2, bl2, hx2⟩ := pl2.ob
        refine ⟨_, rfl, x, _, _, rfl, hx2, rfl, x, dk, Y2, S, R, n, st, rfl, pl2, fun H3 s3 => ?_⟩
        refine ⟨_, rfl, rfl, ?_⟩
        have hns : (legal R st.p).map (va R (n + 1) st.p) ≠ [] := fun z => hne (List.map_eq_nil_iff.mp z)
        refine ⟨_, rfl, _, rfl, ite2 (fun hm => ?_) fun hm => ?_⟩
        · have hm : mover st.p % 2 = 0 := by
            have z := of_decide_eq_true hm
            injection z with z
            omega
          refine ⟨_, rfl, d, _, rfl, s3 _ _ hd, fun p hp => ?_⟩
          have s4 := Fi.Same.upd_new (Same.refl H3) hp (o := valuesO p d)
          have ep : upd H3 p (valuesO p d) p = some (valuesO p d) := upd_same
          generalize upd H3 p (valuesO p d) = H4 at *
          have s24 := s3.trans s4
          refine ⟨p, d, _, _, rfl, ep, s24 _ _ hd, foundD_vals _ _, hns, ?_⟩
          have eS : lmax ((legal R st.p).map (va R (n + 1) st.p)) = S0 R (n + 1) st.p := by
            rw [S0_succ, if_pos hm]; rfl
          rw [if_pos rfl, eS]
          refine ⟨_, rfl, sx, CS, _, _, _, rfl, s24 _ _ hs2, sc.cls, sc.n2, rfl, _, rfl, kn, b, nkey st.p, _, rfl, (pb2.mono (fun a xs e => s24 a _ e)).key, (so2.same s24).dn, le_size (by unfold kdict; rw [gd_len]; omega), fun o d3 => ?_⟩
          exact ⟨_, rfl, sx, CS, _, _, _, rfl, (upd_ne so2.ne).trans (s24 _ _ hs2), sc.cls, sc.n2, rfl, _, rfl, fin2 H4 s24 o d3⟩
        · have hm : ¬ mover st.p % 2 = 0 := fun z => hm (decide_eq_true (by rw [z]; rfl))
          refine ⟨_, rfl, d, _, rfl, s3 _ _ hd, fun p hp => ?_⟩
          have s4 := Fi.Same.upd_new (Same.refl H3) hp (o := valuesO p d)
          have ep : upd H3 p (valuesO p d) p = some (valuesO p d) := upd_same
          generalize upd H3 p (valuesO p d) = H4 at *
          have s24 := s3.trans s4
          refine ⟨p, d, _, _, rfl, ep, s24 _ _ hd, foundD_vals _ _, hns, ?_⟩
          have eS : lmin ((legal R st.p).map (va R (n + 1) st.p)) = S0 R (n + 1) st.p := by
            rw [S0_succ, if_neg hm]; rfl
          rw [if_neg Bool.false_ne_true, eS]
          refine ⟨_, rfl, sx, CS, _, _, _, rfl, s24 _ _ hs2, sc.cls, sc.n2, rfl, _, rfl, kn, b, nkey st.p, _, rfl, (pb2.mono (fun a xs e => s24 a _ e)).key, (so2.same s24).dn, le_size (by unfold kdict; rw [gd_len]; omega), fun o d3 => ?_⟩
          exact ⟨_, rfl, sx, CS, _, _, _, rfl, (upd_ne so2.ne).trans (s24 _ _ hs2), sc.cls, sc.n2, rfl, _, rfl, fin2 H4 s24 o d3⟩
end
end Fi
/-! after; share and after for every number of cards -/
namespace Fi
open PySem PySem.Spec PyProof.Rows L2
theorem same_none {H H' : Hp} (s : Same H H') {a : Addr} (e : H' a = none) : H a = none := by
  cases z : H a with
  | none => rfl
  | some o => rw [s _ _ z] at e; cases e
theorem foundD_none {l : List Nat} {f : Nat → Int} {c : Nat} (h : c ∉ l) : valV (foundD l f) (.inl (c : Nat)) = none := by
  cases z : valV (foundD l f) (.inl (c : Nat)) with
  | none => rfl
  | some v =>
    have := valV_in z
    unfold foundD at this
    rw [List.map_map] at this
    obtain ⟨y, hy, e⟩ := List.mem_map.mp this
    have e2 : (Sum.inl ((y : Nat) : Int) : Key) = .inl (c : Nat) := e
    injection e2 with e2
    have : y = c := by omega
    rw [this] at hy
    exact absurd hy h
theorem foundD_snoc {l : List Nat} {f : Nat → Int} {c : Nat} (h : c ∉ l) : putK (foundD l f) (.inl (c : Nat)) (.int (f c)) = foundD (l ++ [c]) f := by
  rw [putK_new _ (foundD_none h)]
  unfold foundD
  rw [List.map_append]; rfl
theorem not_take {l : List Nat} {i c : Nat} (hl : l.Pairwise (· < ·)) (h : l[i]? = some c) : c ∉ l.take i := fun z => by
  obtain ⟨j, hj, e⟩ := List.mem_take_iff_getElem.mp z
  obtain ⟨hi, e2⟩ := List.getElem?_eq_some_iff.mp h
  have := List.pairwise_iff_getElem.mp hl j i (by omega) hi (by omega)
  omega
section
variable {P : Program} {w : World} {K : PySem.W.Frag} {mg : Str → Option Value} {base : Heap} {CS CP : Addr} {n : Nat}
theorem sc_Solver_after : FnScope ["self", "play", "found", "won", "card"] ["self", "play"] (defScope (inClass (top 26) 2)) := ⟨rfl, rfl, rfl, by decide +kernel, rfl, by decide +kernel, by decide +kernel⟩
theorem ok_Solver_after (E : EntM K CS "after" "Solver.after" (inClass (top 26) 2)) (sc : SoC K CS) (M : PlayM P w K mg CP) {spS : Sp} (M_share : ∀ base, Mt P w K mg base CS (4 + 2 * n) "share" ["self", "play"] spS) (hS : ∀ m, n = m + 1 → spS = spShare w CS CP m) :
    Mt P w K mg base CS (5 + 2 * n) "after" ["self", "play"] (spAfter w CS CP n) := by
  rw [show 5 + 2 * n = (4 + 2 * n) + 1 by omega]
  refine mt_mk E sc_Solver_after (fun _ _ _ _ _ _ us hl => match us, hl with | [_, _], _ => rfl) (fun vs H Q E h => ?_) (fun f cdv A outer s H vs Q E hr h => ?_)
  · obtain ⟨sx, x, dk, dk', kn, Y, S, R, s, k, rfl, _⟩ := h; rfl
  · obtain ⟨sx, x, dk, dk', kn, Y, S, R, st, k, rfl, pl, so, cap, q⟩ := h
    refine ⟨_, (pss_cons (ps_set (i := 2) sc_Solver_after.nd rfl (Or.inl rfl) pe_dnewK)
      (pss_cons (ps_set (i := 3) sc_Solver_after.nd rfl (Or.inl rfl) (pe_md (pv 1) M.pc.cls ((M.tricks _).mono (by omega)) hr (pa_cons pe_int pa_nil)))
      (pss_cons (ps_for PassesOwn.never rfl (pi_list (pe_md0 (pv 1) M.pc.cls ((M.legal _).mono (by omega)) hr)) (pg_name (i := 4) sc_Solver_after.nd rfl (Or.inl rfl)) (pss_cons (ps_expr (pe_md (pv 1) M.pc.cls ((M.put _).mono (by omega)) hr (pa_cons (pv 4) pa_nil)))
      (pss_cons (ps_dput (hu_of hr) (pv 2) (pv 4) (pe_op op_add (pe_op op_sub (pe_md (pv 1) M.pc.cls ((M.tricks _).mono (by omega)) hr (pa_cons pe_int pa_nil)) (pv 3)) (pe_md (pv 0) sc.cls (M_share _) hr (pa_cons (pv 1) pa_nil))) rfl)
      (pss_one (ps_expr (pe_md0 (pv 1) M.pc.cls ((M.take_back _).mono (by omega)) hr))))))
      (pss_one (ps_ret (pv 2)))))), ?_⟩
    intro d hd0
    have s1 := Fi.Same.upd_new (Same.refl H) hd0 (o := .dK [])
    have ed1 : upd H d (.dK []) d = some (.dK []) := upd_same
    generalize upd H d (.dK []) = H1 at *
    have pl1 := pl.same s1
    have so1 := so.same s1
    obtain ⟨dxp, hl, ll, wl, il, bl, hx⟩ := pl1.ob
    refine ⟨_, rfl, x, _, _, rfl, hx, rfl, x, dk, Y, S, R, n, st, 0, rfl, pl1, by decide, ?_⟩
    refine ⟨_, rfl, x, _, _, rfl, hx, rfl, x, dk, Y, S, R, n, st, rfl, pl1, fun lp H2 s2 hlp elp => ?_⟩
    have pl2 := pl1.same s2
    have so2 := so1.same s2
    have ed2 := s2 _ _ ed1
    have nlp : lp ∉ d :: kn :: Y := by
      rintro (_ | ⟨_, _ | ⟨_, z⟩⟩)
      · rw [hlp] at ed1; cases ed1
      · obtain ⟨φ, e⟩ := so1.dn.is
        rw [hlp] at e; cases e
      · exact pl1.new hlp z
    refine ⟨lp, rfl, ⟨_, SqL.of elp⟩, ?_⟩
    refine for_list (xs := nts (legal R st.p)) (fun i σ H' => ∃ Yi ki x4, Mut (d :: kn :: Y) (d :: kn :: Yi) H2 H' ∧ Pl CP x dk Yi S R n H' st ∧ SolAt w CS sx dk' kn S R H' ki ∧ ki.length ≤ k.length + i * Bn (n - 1) ∧
      H' d = some (.dK (foundD ((legal R st.p).take i) (va R n st.p))) ∧ σ = [some (.ref sx), some (.ref x), some (.ref d), some (.int (wn st 0)), x4]) ⟨Y, k, none, .refl _ _, pl2, so2, by omega, ed2, rfl⟩ ?_ ?_ ?_
    · rintro i σ H' hi ⟨Yi, ki, x4, mi, pli, soi, ci, edi, rfl⟩
      exact SqL.of (mi.1.at elp nlp)
    · rintro i v σ H' hi ⟨Yi, ki, x4, mi, pli, soi, ci, edi, rfl⟩
      obtain ⟨c, hci, rfl⟩ := nts_inv hi
      have hmem : c ∈ legal R st.p := List.mem_of_getElem? hci
      have wf := pl.1.wf
      have r1 := pl.1.r1
      cases n with
      | zero => rw [wf.legal_nil.mpr rfl] at hmem; cases hmem
      | succ m =>
      have eS := hS m rfl
      subst eS
      have hlen := legal_le r1 wf
      have h100 := pl.1.h100
      have hil : i < (legal R st.p).length := (List.getElem?_eq_some_iff.mp hci).1
      have hB : Bn (m + 1) = 1 + ((m + 4) / 4) * Bn m := rfl
      have hmul : (i + 1) * Bn m ≤ ((m + 4) / 4) * Bn m := Nat.mul_le_mul_right _ (by omega)
      have hmul2 : (i + 1) * Bn m = i * Bn m + Bn m := Nat.succ_mul _ _
      simp only [Nat.add_sub_cancel] at ci
      obtain ⟨_, _, _, _, _, _, hxi⟩ := pli.ob
      refine ⟨_, rfl, x, _, _, rfl, hxi, rfl, _, rfl, x, dk, Yi, S, R, m, st, c, rfl, pli, hmem, fun Ha Ya a b ma pla un => ?_⟩
      have soa := soi.play pli ma.1
      have eda := ma.1.at edi (pli.out edi notPK_dK)
      obtain ⟨_, _, _, _, _, _, hxa⟩ := pla.ob
      obtain ⟨dxs, hsa⟩ := soa.ob
      refine ⟨_, rfl, x, _, _, rfl, hxa, rfl, x, dk, Ya, S, R, m, _, 0, rfl, pla, by decide, _, rfl, _, _, rfl, rfl, ?_⟩
      refine ⟨_, rfl, sx, _, _, rfl, hsa, rfl, _, rfl, sx, x, dk, dk', kn, Ya, S, R, _, ki, rfl, pla, soa, by omega, fun Hb Yb kb mb plb sob cb => ?_⟩
      obtain ⟨φ, ekn⟩ := soa.dn.is
      have edb := mb.1.at eda (by
        rintro (_ | ⟨_, z⟩)
        · rw [ekn] at eda; cases eda
        · exact pla.out eda notPK_dK z)
      have ev : wn (putS R st c a b) 0 - wn st 0 + S0 R m (putS R st c a b).p = va R (m + 1) st.p c := by
        rw [wn_put (by decide)]
        show wn st 0 + gain R 0 st.p c - wn st 0 + S0 R m (nxt R st.p c) = gain R 0 st.p c + S0 R m (nxt R st.p c)
        omega
      refine ⟨_, _, rfl, rfl, _, rfl, _, rfl, d, _, rfl, DPut.k (k := .inl (c : Nat)) edb (le_size (by rw [len_foundD, List.length_take]; omega)), ?_⟩
      dsimp only
      rw [ev, foundD_snoc (not_take legal_asc hci), ← take_snoc hci]
      have kc : Kp [d] Hb (upd Hb d (.dK (foundD ((legal R st.p).take (i + 1)) (va R (m + 1) st.p)))) := (Kp.refl [d] Hb).chg edb not_imm_dK (.inl (by simp))
      have edc : upd Hb d (.dK (foundD ((legal R st.p).take (i + 1)) (va R (m + 1) st.p))) d = some (.dK (foundD ((legal R st.p).take (i + 1)) (va R (m + 1) st.p))) := upd_same
      generalize upd Hb d (.dK (foundD ((legal R st.p).take (i + 1)) (va R (m + 1) st.p))) = Hc at *
      obtain ⟨φb, eknb⟩ := sob.dn.is
      obtain ⟨dxsb, hsb⟩ := sob.ob
      have plc := plb.kp kc (fun y hy => by
        rw [List.mem_singleton]
        rintro rfl
        exact plb.out edb notPK_dK hy)
      have soc := sob.kp kc (by rw [List.mem_singleton]; exact ne_of hsb edb (by intro h; cases h)) (by rw [List.mem_singleton]; exact ne_of eknb edb (by intro h; cases h))
      obtain ⟨_, _, _, _, _, _, hxc⟩ := plc.ob
      refine ⟨_, rfl, x, _, _, rfl, hxc, rfl, x, dk, Yb, S, R, m, st, c, a, b, rfl, plc, pl.1, hmem, (un.mono mb.1.tk).mono kc.tk, fun Hd Yd md pld => ?_⟩
      refine ⟨Yd, kb, _, ?_, pld, soc.play plc md.1, ?_, md.1.at edc (plc.out edc notPK_dK), rfl⟩
      · refine mi.trans ((ma.more (Z := [d, kn])).trans ((mb.more (Z := [d])).trans (Mut.trans ⟨kc.mono fun y hy => .inl ?_, fun y hy => .inl hy⟩ (md.more (Z := [d, kn])))))
        rw [List.mem_singleton.mp hy]; exact List.mem_cons_self ..
      · simp only [Nat.add_sub_cancel]
        omega
    · rintro σ H' ⟨Yl, kl, x4, ml, pll, sol, cl, edl, rfl⟩
      rw [nts_len] at cl edl
      rw [List.take_length] at edl
      have s12 := s1.trans s2
      refine ⟨_, rfl, q H' Yl kl d ⟨(Kp.same s12).trans ml.1 fun z hz => ?_, fun y hy => ?_⟩ pll sol ?_ hd0 edl⟩
      · rcases List.mem_cons.mp hz with e | hz
        · exact .inr (by rw [e]; exact hd0)
        · exact .inl hz
      · rcases ml.2 y (List.mem_cons_of_mem _ hy) with z | z
        · rcases List.mem_cons.mp z with e | hz
          · exact .inr (by rw [e]; exact hd0)
          · exact .inl hz
        · exact .inr (same_none s12 z)
      · cases n with
        | zero =>
          rw [pl.1.wf.legal_nil.mpr rfl] at cl
          simp at cl
          show kl.length + 1 ≤ k.length + 1
          omega
        | succ m =>
          have hlen := legal_le pl.1.r1 pl.1.wf
          have hmul : (legal R st.p).length * Bn m ≤ ((m + 4) / 4) * Bn m := Nat.mul_le_mul_right _ hlen
          have hB : Bn (m + 1) = 1 + ((m + 4) / 4) * Bn m := rfl
          simp only [Nat.add_sub_cancel] at cl
          omega
end
end Fi
/-! share, shares_after, best_of -/
namespace Fi
open PySem PySem.Spec PyProof.Rows L2
def spShareF (CG : Addr) : Sp := fun vs H Q _ => ∃ (x dk : Addr) (Y : List Addr) (S R n : Nat) (s : PS) (side : Nat), vs = [.ref x, .int (side : Nat)] ∧ Pl CG x dk Y S R n H s ∧ n ≤ 12 ∧ side < 2 ∧ Ret H (.int (Sd R side n s.p)) Q
def vmm (R : Nat) : Nat → Psn → Nat → Int
  | 0, _, _ => 0
  | n + 1, p, c => vm R n p c
def spSharesAfter (w : World) (CS CP : Addr) (n : Nat) : Sp := fun vs H Q _ => ∃ (sx x dk dk' kn : Addr) (Y : List Addr) (S R : Nat) (s : PS) (k : Known), vs = [.ref sx, .ref x] ∧ Pl CP x dk Y S R n H s ∧ SolAt w CS sx dk' kn S R H k ∧ k.length + Bn n ≤ 1000000 ∧
  ∀ H' k' d, Kp [kn] H H' → SolAt w CS sx dk' kn S R H' k' → k'.length ≤ k.length + Bn n → H d = none → H' d = some (.dK (foundD (legal R s.p) (vmm R n s.p))) → Q (.ref d) H'
def spBest : Sp := fun vs H Q _ => ∃ (d : Addr) (l : List Nat) (f : Nat → Int), vs = [.ref d] ∧ H d = some (.dK (foundD l f)) ∧ l.Pairwise (· < ·) ∧ l.length < 64 ∧ NewL H (nts (l.filter fun c => decide (f c = lmax (l.map f)))) Q
/-- over a dict's keys while it is frozen: a dict comprehension -/
theorem dc_keys {d : Addr} {o : Obj} {kvs : List (Key × V)} {g : TG} {tt : TT} {tk tv : TE} {vs : List Nat} {σ : L2.St} {H1 : Hp} {D : Addr} {Qd : Hp → Prop} (Pv : Nat → Hp → Prop) (h0 : Pv 0 (upd H1 D (.dK []))) (hl : ∀ i H, i ≤ kvs.length → Pv i H → H d = some (.frz o (.dK kvs)))
    (hs : ∀ i k v H, kvs[i]? = some (k, v) → Pv i H → g (kV k) (wipe σ vs) H fun σ2 H2 => wipe σ2 vs = wipe σ vs ∧ tt σ2 H2 fun b H3 =>
      if b = true then tk σ2 H3 fun y H4 => tv σ2 H4 fun z H5 => ∃ kvs k, y = kV k ∧ H5 D = some (.dK kvs) ∧ kvs.length < sizeLine ∧ Pv (i + 1) (upd H5 D (.dK (putK kvs k z))) else Pv (i + 1) H3) (hd : ∀ H, Pv kvs.length H → Qd H) :
    ∃ W : Nat → Nat → Hp → Prop, (∃ m, W 0 m (upd H1 D (.dK []))) ∧ ∀ i m H, W i m H →
      ((Itk d o kvs).stop i H ∧ Qd H) ∨ ((Itk d o kvs).go i H ∧ ∃ Nx : Hp → Prop, (∀ H', Nx H' → ∃ m', m' < m ∧ W (i + 1) m' H') ∧ ∀ x H', (Itk d o kvs).yld i H x H' → g x (wipe σ vs) H' fun σ2 H2 => wipe σ2 vs = wipe σ vs ∧ tt σ2 H2 fun b H3 =>
        if b = true then tk σ2 H3 fun y H4 => tv σ2 H4 fun z H5 => ∃ kvs k, y = kV k ∧ H5 D = some (.dK kvs) ∧ kvs.length < sizeLine ∧ Nx (upd H5 D (.dK (putK kvs k z))) else Nx H3) := by
  refine ⟨fun i m H => m = kvs.length - i ∧ i ≤ kvs.length ∧ Pv i H, ⟨kvs.length, by simp, Nat.zero_le _, h0⟩, ?_⟩
  rintro i m H ⟨rfl, hi, p⟩
  have q := hl i H hi p
  by_cases hlt : i < kvs.length
  · refine .inr ⟨⟨q, hlt⟩, Pv (i + 1), fun H' p' => ⟨kvs.length - (i + 1), by omega, rfl, hlt, p'⟩, fun x H' y => ?_⟩
    obtain ⟨e, k, v, hk, ex⟩ := y
    subst e ex
    exact hs i k v _ hk p
  · have e : i = kvs.length := by omega
    subst e
    exact .inl ⟨⟨q, Nat.le_refl _⟩, hd H p⟩
section
variable {P : Program} {w : World} {K : PySem.W.Frag} {mg : Str → Option Value} {base : Heap} {CS CP CG : Addr}
theorem solver_all (E1 : EntM K CS "share" "Solver.share" (inClass (top 26) 1)) (E2 : EntM K CS "after" "Solver.after" (inClass (top 26) 2)) (sc : SoC K CS) (M : PlayM P w K mg CP) (T : Txt K mg) (D_side_of : ∀ base, Df P w K mg base 1 "side_of" ["player"] spSide) :
    ∀ n, (∀ base, Mt P w K mg base CS (5 + 2 * n) "after" ["self", "play"] (spAfter w CS CP n)) ∧ (∀ base, Mt P w K mg base CS (6 + 2 * n) "share" ["self", "play"] (spShare w CS CP n))
  | 0 => by
    have never : ∀ base, Mt P w K mg base CS 1 "share" ["self", "play"] (fun _ _ _ _ => False) := fun base =>
      mt_mk (k := 0) E1 sc_Solver_share (fun _ _ _ _ _ _ us hl => match us, hl with | [_, _], _ => rfl) (fun _ _ _ _ h => h.elim) (fun _ _ _ _ _ _ _ _ _ _ h => h.elim)
    have a := fun base => ok_Solver_after (base := base) (n := 0) E2 sc M (fun base => (never base).mono (by decide)) (fun m h => by omega)
    exact ⟨a, fun base => ok_Solver_share E1 sc M T D_side_of a⟩
  | n + 1 => by
    have ih := (solver_all E1 E2 sc M T D_side_of n).2
    have a := fun base => ok_Solver_after (base := base) (n := n + 1) (P := P) (w := w) (mg := mg) E2 sc M (spS := spShare w CS CP n) (fun base => (ih base).mono (by omega)) (fun m h => by
      have : m = n := by omega
      rw [this])
    exact ⟨a, fun base => ok_Solver_share E1 sc M T D_side_of a⟩
theorem sc_share : FnScope ["play", "side", "own", "found"] ["play", "side"] (defScope (top 27)) := ⟨rfl, rfl, rfl, by decide +kernel, rfl, by decide +kernel, by decide +kernel⟩
theorem Good.own {S R n : Nat} {s : PS} (g : Good S R n s) : Good S R n ⟨s.p, 0, 0, [], []⟩ := ⟨g.s1, g.s4, g.r1, g.r13, g.wf, by have := g.h100; simp; omega, by have := g.b100; simp; omega⟩
theorem ok_share (E : EntF K mg "share" (top 27)) (sc : SoC K CS) (M : PlayM P w K mg CP) (G : PlayM P w K mg CG) (D_play_at : ∀ base, Df P w K mg base 4 "play_at" ["deck", "position"] (spPlayAt CP)) (N_Solver : ∀ base, Mc P w K mg base CS 1 "Solver" ["self", "deck"] (spSolInit w CS))
    (M_share : ∀ n base, Mt P w K mg base CS (6 + 2 * n) "share" ["self", "play"] (spShare w CS CP n)) : Df P w K mg base 31 "share" ["play", "side"] (spShareF CG) := by
  refine df_mk E sc_share (fun _ _ _ _ _ _ us hl => match us, hl with | [_, _], _ => rfl) (fun vs H Q E h => ?_) (fun f cdv A outer s H vs Q E hr h => ?_)
  · obtain ⟨x, dk, Y, S, R, n, s, side, rfl, _⟩ := h; rfl
  · obtain ⟨x, dk, Y, S, R, n, st, side, rfl, pl, n12, hs2, q⟩ := h
    refine ⟨_, (pss_cons (ps_set (i := 2) sc_share.nd rfl (Or.inl rfl) (pe_cd ((D_play_at _).mono (by decide)) hr rfl (pa_cons (pe_md0 (pv 0) G.pc.cls ((G.deck _).mono (by decide)) hr) (pa_cons (pe_md0 (pv 0) G.pc.cls ((G.position _).mono (by decide)) hr) pa_nil))))
      (pss_cons (ps_set (i := 3) sc_share.nd rfl (Or.inl rfl) (pe_md (pe_nd ((N_Solver _).mono (by decide : 1 ≤ 29)) hr rfl (pa_cons (pe_md0 (pv 0) G.pc.cls ((G.deck _).mono (by decide)) hr) pa_nil)) sc.cls ((M_share n _).mono (by omega)) hr (pa_cons (pv 2) pa_nil)))
      (pss_one (ps_ret (pe_ifExp (pt_cmpR op_eq (pv 1) pe_int (nomark _)) (pv 3) (pe_op op_sub (pe_md0 (pv 2) M.pc.cls ((M.left _).mono (by decide)) hr) (pv 3))))))), ?_⟩
    obtain ⟨_, _, _, _, _, _, hx⟩ := pl.ob
    refine ⟨_, rfl, x, _, _, rfl, hx, rfl, x, dk, Y, S, R, n, st, rfl, pl, ?_⟩
    refine ⟨_, rfl, x, _, _, rfl, hx, rfl, x, dk, Y, S, R, n, st, rfl, pl, fun b H1 s1 hb pb => ?_⟩
    refine ⟨dk, b, S, R, n, st.p, rfl, (pl.same s1).2.1, pb, pl.1.own, fun H2 o Yo s2 no plo => ?_⟩
    have s12 := s1.trans s2
    have pl2 := pl.same s12
    obtain ⟨_, _, _, _, _, _, hx2⟩ := pl2.ob
    refine ⟨_, rfl, x, _, _, rfl, hx2, rfl, x, dk, Y, S, R, n, st, rfl, pl2, fun sx dxs hsx hdxs hne => ?_⟩
    have s3 : Same H2 (upd (upd H2 dxs (.own sx)) sx (.ins CS dxs [])) := Fi.Same.upd_mine (Fi.Same.upd_new (Same.refl H2) hdxs) hsx
    have e3 : upd (upd H2 dxs (.own sx)) sx (.ins CS dxs []) sx = some (.ins CS dxs []) := upd_same
    generalize upd (upd H2 dxs (.own sx)) sx (.ins CS dxs []) = H3 at *
    refine ⟨sx, dxs, dk, S, R, rfl, e3, fun H4 kn k4 hkn so => ⟨rfl, ?_⟩⟩
    have s4 : Same H2 H4 := fun a u e => k4 a u (s3 a u e) (.inl (by
      rw [List.mem_singleton]
      rintro rfl
      rw [hsx] at e; cases e))
    obtain ⟨_, e4⟩ := so.ob
    refine ⟨sx, _, _, rfl, e4, rfl, _, rfl, sx, o, dk, dk, kn, Yo, S, R, _, [], rfl, plo.same s4, so, ?_, fun H5 Y5 k5 m5 pl5 so5 c5 => ?_⟩
    · have h1 := Bn_mono n12
      have h2 := Bn_12
      show 0 + Bn n ≤ 1000000
      omega
    have s5 : Same H H5 := fun a u e => m5.1 a u (s4 a u (s12 a u e)) (.inl (by
      rintro (_ | ⟨_, z⟩)
      · have := s3 _ _ (s12 _ _ e); rw [hkn] at this; cases this
      · have := no a z; rw [s1 _ _ e] at this; cases this))
    obtain ⟨_, _, _, _, _, _, ho5⟩ := pl5.ob
    have : side = 0 ∨ side = 1 := by omega
    rcases this with e | e
    · subst e
      refine ⟨_, rfl, rfl, true, b_eqT rfl, iteT ?_⟩
      exact ⟨_, rfl, q H5 s5⟩
    · subst e
      refine ⟨_, rfl, rfl, false, b_eqF (by decide), iteF ?_⟩
      refine ⟨_, rfl, o, _, _, rfl, ho5, rfl, o, dk, Y5, S, R, n, _, rfl, pl5, fun H6 s6 => ?_⟩
      exact ⟨_, rfl, _, _, rfl, rfl, q H6 (s5.trans s6)⟩
end
end Fi
/-! shares_after, best_of -/
namespace Fi
open PySem PySem.Spec PyProof.Rows L2
theorem foundD_congr {l : List Nat} {f g : Nat → Int} (h : ∀ c ∈ l, f c = g c) : foundD l f = foundD l g := by
  unfold foundD
  exact List.map_congr_left fun c hc => by rw [h c hc]
theorem foundD_at {l : List Nat} {f : Nat → Int} {i : Nat} {k : Key} {v : V} (h : (foundD l f)[i]? = some (k, v)) : ∃ c : Nat, l[i]? = some c ∧ k = .inl (c : Nat) ∧ v = .int (f c) := by
  unfold foundD at h
  rw [List.getElem?_map] at h
  cases e : l[i]? with
  | none => rw [e] at h; cases h
  | some c => rw [e] at h; cases h; exact ⟨c, rfl, rfl, rfl⟩
theorem foundD_val {l : List Nat} {f : Nat → Int} {c : Nat} (h : c ∈ l) : valV (foundD l f) (.inl (c : Nat)) = some (.int (f c)) := by
  induction l with
  | nil => cases h
  | cons a l ih =>
    by_cases e : a = c
    · subst e
      exact valV_pos (p := ((.inl (a : Nat) : Key), V.int (f a))) rfl
    · have hc : c ∈ l := by
        rcases List.mem_cons.mp h with z | z
        · exact absurd z.symm e
        · exact z
      show valV (((.inl (a : Nat) : Key), V.int (f a)) :: foundD l f) _ = _
      rw [valV_neg (fun z => by injection z with z; omega)]
      exact ih hc
section
variable {P : Program} {w : World} {K : PySem.W.Frag} {mg : Str → Option Value} {base : Heap} {CS CP : Addr} {n : Nat}
theorem sc_shares_after : FnScope ["solver", "play", "own", "found", "card"] ["solver", "play"] (defScope (top 28)) := ⟨rfl, rfl, rfl, by decide +kernel, rfl, by decide +kernel, by decide +kernel⟩
theorem ok_shares_after (E : EntF K mg "shares_after" (top 28)) (T : Txt K mg) (sc : SoC K CS) (M : PlayM P w K mg CP) (D_side_of : ∀ base, Df P w K mg base 1 "side_of" ["player"] spSide) (D_play_at : ∀ base, Df P w K mg base 4 "play_at" ["deck", "position"] (spPlayAt CP))
    (M_after : ∀ n base, Mt P w K mg base CS (5 + 2 * n) "after" ["self", "play"] (spAfter w CS CP n)) : Df P w K mg base (6 + 2 * n) "shares_after" ["solver", "play"] (spSharesAfter w CS CP n) := by
  rw [show 6 + 2 * n = (5 + 2 * n) + 1 by omega]
  refine df_mk E sc_shares_after (fun _ _ _ _ _ _ us hl => match us, hl with | [_, _], _ => rfl) (fun vs H Q E h => ?_) (fun f cdv A outer s H vs Q E hr h => ?_)
  · obtain ⟨sx, x, dk, dk', kn, Y, S, R, s, k, rfl, _⟩ := h; rfl
  · obtain ⟨sx, x, dk, dk', kn, Y, S, R, st, k, rfl, pl, so, cap, q⟩ := h
    refine ⟨_, (pss_cons (ps_set (i := 2) sc_shares_after.nd rfl (Or.inr rfl) (pe_cd ((D_play_at _).mono (by omega)) hr rfl (pa_cons (pe_md0 (pv 1) M.pc.cls ((M.deck _).mono (by omega)) hr) (pa_cons (pe_md0 (pv 1) M.pc.cls ((M.position _).mono (by omega)) hr) pa_nil))))
      (pss_cons (ps_set (i := 3) sc_shares_after.nd rfl (Or.inr rfl) (pe_md (pv 0) sc.cls (M_after n _) hr (pa_cons (pv 2) pa_nil)))
      (pss_cons (ps_if (PW.pt (pw_and (pt_cmpR op_gt (pe_callB call_lenD rfl T.f_len PySem.boot_len (pa_cons (pv 3) pa_nil)) pe_int (nomark _)) (pw_and1 (pt_cmpR op_eq (pe_cd ((D_side_of _).mono (by omega)) hr rfl (pa_cons (pe_md0 (pv 2) M.pc.cls ((M.turn _).mono (by omega)) hr) pa_nil)) pe_int (nomark _)))))
        (pss_one (ps_ret (pe_lock (pe_dc (own := [("card", 4)]) (g := gName 4) (tt := tYes) rfl sc_shares_after.nd (pi_keys (pv 3)) (blkOk_by (N := ["solver", "play", "own", "found", "card"]) (sc := defScope (top 28)) (by decide +kernel)) (fun _ _ _ _ _ => pg_name (i := 4) sc_shares_after.nd rfl (Or.inl rfl)) (fun _ _ _ _ _ => pts_nil) (fun _ _ _ _ _ => pv 4)
          (fun _ _ _ _ _ => pe_op op_sub (pe_md0 (pv 2) M.pc.cls ((M.left _).mono (by omega)) hr) (pe_dget (hu_of hr) (pv 3) (pv 4) (fun _ _ => rfl))))))) pss_nil)
      (pss_one (ps_ret (pv 3)))))), ?_⟩
    obtain ⟨_, _, _, _, _, _, hx⟩ := pl.ob
    refine ⟨_, rfl, x, _, _, rfl, hx, rfl, x, dk, Y, S, R, n, st, rfl, pl, ?_⟩
    refine ⟨_, rfl, x, _, _, rfl, hx, rfl, x, dk, Y, S, R, n, st, rfl, pl, fun b H1 s1 hb pb => ?_⟩
    refine ⟨dk, b, S, R, n, st.p, rfl, (pl.same s1).2.1, pb, pl.1.own, fun H2 o Yo s2 no plo => ?_⟩
    have s12 := s1.trans s2
    have so2 := so.same s12
    obtain ⟨_, hs2⟩ := so2.ob
    refine ⟨_, rfl, sx, _, _, rfl, hs2, rfl, _, rfl, sx, o, dk, dk', kn, Yo, S, R, _, k, rfl, plo, so2, cap, fun H3 Y3 k3 d m3 pl3 so3 c3 hd0 hd => ?_⟩
    have k03 : Kp [kn] H H3 := (Kp.same s12).trans m3.1 fun z hz => by
      rcases List.mem_cons.mp hz with e | z'
      · exact .inl (by rw [e]; simp)
      · exact .inr (same_none s1 (no z z'))
    have d0 : H d = none := same_none s12 hd0
    -- the plain end
    have fin : ∀ H4, Same H3 H4 → (∀ c ∈ legal R st.p, va R n st.p c = vmm R n st.p c) → Q (.ref d) H4 := fun H4 s4 hv =>
      q H4 k3 d (k03.trans (Kp.same s4 : Kp [] H3 H4) (fun z hz => by cases hz)) (so3.same s4) (by omega) d0 ((s4 _ _ hd).trans (by rw [← foundD_congr hv]))
    refine ⟨_, rfl, d, _, rfl, hd, ?_⟩
    rw [len_foundD]
    have wf := pl.1.wf
    cases n with
    | zero =>
      have e0 : legal R st.p = [] := wf.legal_nil.mpr rfl
      rw [e0]
      refine ⟨_, _, rfl, rfl, false, rfl, iteF (iteF ?_)⟩
      exact ⟨_, rfl, fin H3 (Same.refl H3) (fun c hc => by rw [e0] at hc; cases hc)⟩
    | succ n =>
      have hne := legal_ne (R := R) wf
      have hpos : 0 < (legal R st.p).length := List.length_pos_iff.mpr hne
      refine ⟨_, _, rfl, rfl, true, congrArg V.bl (decide_eq_true (Int.natCast_pos.mpr hpos)), iteT ?_⟩
      obtain ⟨_, _, _, _, _, _, ho3⟩ := pl3.ob
      refine ⟨_, rfl, o, _, _, rfl, ho3, rfl, o, dk, Y3, S, R, n, _, rfl, pl3, fun H4 s4 => ?_⟩
      refine ⟨_, rfl, rfl, decide (mover st.p % 2 = 1), ?_, ite2 (fun hm => ?_) fun hm => ?_⟩
      · exact congrArg V.bl (decide_eq_decide.mpr ⟨fun z => by injection z with z; have z : ((mover st.p % 2 : Nat) : Int) = 1 := z; omega, fun z => by show V.int ((mover st.p % 2 : Nat) : Int) = V.int 1; rw [z]; rfl⟩)
      · have hm := of_decide_eq_true hm
        have pl4 := pl3.same s4
        have so4 := so3.same s4
        have hd4 := s4 _ _ hd
        refine ⟨d, _, hd4, trivial, fun od => ?_⟩
        have kf : ∀ a u, a ≠ d → H4 a = some u → upd H4 d (.frz od (.dK (foundD (legal R st.p) (va R (n + 1) st.p)))) a = some u := fun a u ne e => (upd_ne ne).trans e
        have ef : upd H4 d (.frz od (.dK (foundD (legal R st.p) (va R (n + 1) st.p)))) d = some (.frz od (.dK (foundD (legal R st.p) (va R (n + 1) st.p)))) := upd_same
        have back : ∀ a, upd H4 d (.frz od (.dK (foundD (legal R st.p) (va R (n + 1) st.p)))) a = none → H4 a = none ∧ a ≠ d := fun a e => by
          by_cases z : a = d
          · rw [z, upd_same] at e; cases e
          · rw [upd_ne z] at e; exact ⟨e, z⟩
        generalize upd H4 d (.frz od (.dK (foundD (legal R st.p) (va R (n + 1) st.p)))) = Hf at *
        have plf : Pl CP o dk Y3 S R (n + 1) Hf _ := pl4.kp (Z := [d]) (fun a u e hc => by
          by_cases z : a = d
          · subst z
            rcases hc with hc | hc
            · exact absurd (List.mem_singleton.mpr rfl) hc
            · rw [hd4] at e; cases e; exact absurd hc not_imm_dK
          · exact kf a u z e) (fun y hy => by
          rw [List.mem_singleton]
          rintro rfl
          exact pl4.out hd4 notPK_dK hy)
        refine ⟨_, rfl, d, od, rfl, .inl ⟨_, ef, ?_⟩⟩
        intro D hD
        obtain ⟨hD4, hDd⟩ := back D hD
        have plb := plf.same (Fi.Same.upd_new (Same.refl Hf) hD (o := .dK []))
        have eb := Fi.Same.upd_new (Same.refl Hf) hD (o := .dK []) _ _ ef
        have kb : ∀ a u, a ≠ d → H4 a = some u → upd Hf D (.dK []) a = some u := fun a u ne e => (Fi.Same.upd_new (Same.refl Hf) hD (o := .dK [])) _ _ (kf a u ne e)
        have eD : upd Hf D (.dK []) D = some (.dK []) := upd_same
        have h100 := pl.1.h100
        have hlen := legal_le pl.1.r1 wf
        refine dc_keys (fun i H' => Kp [D] (upd Hf D (.dK [])) H' ∧ H' D = some (.dK (foundD ((legal R st.p).take i) (vm R n st.p)))) ⟨.refl _ _, eD⟩ ?_ ?_ ?_
        · rintro i H' hi ⟨ki, ei⟩
          exact ki.at eb (by rw [List.mem_singleton]; exact hDd.symm)
        · rintro i kk v H' hi ⟨ki, ei⟩
          obtain ⟨c, hci, rfl, rfl⟩ := foundD_at hi
          have hmem : c ∈ legal R st.p := List.mem_of_getElem? hci
          have hil : i < (legal R st.p).length := (List.getElem?_eq_some_iff.mp hci).1
          have ed := ki.at eb (by rw [List.mem_singleton]; exact hDd.symm)
          have pli := plb.kp ki (fun y hy => by
            rw [List.mem_singleton]
            rintro rfl
            exact plb.out eD notPK_dK hy)
          obtain ⟨_, _, _, _, _, _, hoi⟩ := pli.ob
          refine ⟨rfl, ?_⟩
          unfold tYes
          refine iteT ?_
          refine ⟨_, rfl, _, rfl, o, _, _, rfl, hoi, rfl, o, dk, Y3, S, R, n + 1, _, rfl, pli, fun H5 s5 => ?_⟩
          refine ⟨_, rfl, _, rfl, d, _, rfl, .inl ⟨_, .inl (c : Nat), .inr ⟨od, s5 _ _ ed⟩, rfl, (foundD_val hmem).symm⟩, _, _, rfl, rfl, ?_⟩
          refine ⟨_, .inl (c : Nat), rfl, s5 _ _ ei, le_size (by rw [len_foundD, List.length_take]; omega), ?_⟩
          have ev : ((left st.p : Nat) : Int) - va R (n + 1) st.p c = vm R n st.p c := by
            show ((left st.p : Nat) : Int) - v0 R n st.p c = vm R n st.p c
            unfold vm; rw [if_pos hm]
          dsimp only
          refine ⟨?_, ?_⟩
          · exact (ki.trans (Kp.same s5 : Kp [] H' H5) (fun z hz => by cases hz)).chg (s5 _ _ ei) not_imm_dK (.inl (by simp))
          · rw [upd_same, ev, foundD_snoc (not_take legal_asc hci), ← take_snoc hci]
        · rintro H' ⟨ki, ei⟩
          rw [len_foundD, List.take_length] at ei
          have ed := ki.at eb (by rw [List.mem_singleton]; exact hDd.symm)
          refine ⟨ed, ?_⟩
          have sf : Same H4 (upd H' d (.dK (foundD (legal R st.p) (va R (n + 1) st.p)))) := fun a u e => by
            by_cases z : a = d
            · subst z
              rw [hd4] at e; cases e
              exact upd_same
            · rw [upd_ne z]
              exact ki.at (kb a u z e) (by
                rw [List.mem_singleton]
                rintro rfl
                rw [hD4] at e; cases e)
          have s3f := s4.trans sf
          refine q _ k3 D (k03.trans (Kp.same s3f : Kp [] H3 _) (fun z hz => by cases hz)) (so3.same s3f) (by omega) ?_ ((upd_ne hDd).trans ei)
          have hD3 := same_none s4 hD4
          refine k03.free hD3 ?_
          rw [List.mem_singleton]
          rintro rfl
          obtain ⟨φ, e'⟩ := so3.dn.is
          rw [hD3] at e'; cases e'
      · have hm : ¬ mover st.p % 2 = 1 := fun z => hm (decide_eq_true z)
        exact ⟨_, rfl, fin H4 s4 fun c hc => by
          show v0 R n st.p c = vm R n st.p c
          unfold vm; rw [if_neg hm]⟩
theorem sc_best_of : FnScope ["found", "card"] ["found"] (defScope (top 29)) := ⟨rfl, rfl, rfl, by decide +kernel, rfl, by decide +kernel, by decide +kernel⟩
theorem sorted_nat {l : List Nat} {ys : List Int} (hl : l.Pairwise (· < ·)) (hp : ys.Perm (l.map fun (c : Nat) => (c : Int))) (hs : ys.Pairwise (· ≤ ·)) : ys = l.map fun (c : Nat) => (c : Int) := by
  refine List.Perm.eq_of_pairwise (le := (· ≤ ·)) (fun a b _ _ h1 h2 => Int.le_antisymm h1 h2) hs ?_ hp
  rw [List.pairwise_map]
  exact hl.imp fun h => by omega
theorem ok_best_of (E : EntF K mg "best_of" (top 29)) (T : Txt K mg) : Df P w K mg base 1 "best_of" ["found"] spBest := by
  refine df_mk E sc_best_of (fun _ _ _ _ _ _ us hl => match us, hl with | [_], _ => rfl) (fun vs H Q E h => ?_) (fun f cdv A outer s H vs Q E hr h => ?_)
  · obtain ⟨d, l, f, rfl, _⟩ := h; rfl
  · obtain ⟨d, l, f, rfl, hd, asc, l64, q⟩ := h
    refine ⟨_, (pss_one (ps_ret (pe_lc (own := [("card", 1)]) (g := gName 1) rfl sc_best_of.nd (pi_list (pe_callB (call_sortedDI rfl) rfl T.f_sorted (by decide +kernel) (pa_cons (pv 0) pa_nil))) (blkOk_by (N := ["found", "card"]) (sc := defScope (top 29)) (by decide +kernel)) (fun _ _ _ _ _ => pg_name (i := 1) sc_best_of.nd rfl (Or.inl rfl)) (fun _ _ _ _ _ => pts_one (pt_cmpR op_eq (pe_dget (hu_of hr) (pv 0) (pv 1) (fun _ _ => rfl)) (pe_callB (cr_maxV rfl) rfl T.f_max (by decide +kernel) (pa_cons (pe_values (pv 0)) pa_nil)) (nomark _))) (fun _ _ _ _ _ => (pv 1))))), ?_⟩
    have ek : (foundD l f).map (·.1) = (l.map fun (c : Nat) => (c : Int)).map Sum.inl := by
      unfold foundD; rw [List.map_map, List.map_map]; rfl
    refine ⟨_, rfl, d, _, _, rfl, .inl hd, ek, by rw [List.length_map]; exact l64, fun ys lp hp hs hlp => ?_⟩
    rw [sorted_nat asc hp hs]
    have eL : (l.map fun (c : Nat) => (c : Int)).map V.int = nts l := by unfold nts; rw [List.map_map]; rfl
    rw [eL]
    have s1 := Fi.Same.upd_new (Same.refl H) hlp (o := .lst (nts l))
    have e1 : upd H lp (.lst (nts l)) lp = some (.lst (nts l)) := upd_same
    generalize upd H lp (.lst (nts l)) = H1 at *
    refine ⟨lp, rfl, ⟨_, SqL.of e1⟩, fun D hD => ?_⟩
    have s2 := Fi.Same.upd_new (Same.refl H1) hD (o := .lst [])
    have e2 : upd H1 D (.lst []) D = some (.lst []) := upd_same
    refine lc_list (xs := nts l) (fun i H' => Same H1 H' ∧ H' D = some (.lst (nts ((l.take i).filter fun c => decide (f c = lmax (l.map f)))))) ⟨s2, e2⟩ ?_ ?_ ?_
    · rintro i H' hi ⟨si, ei⟩
      exact SqL.of (si _ _ e1)
    · rintro i v H' hi ⟨si, ei⟩
      obtain ⟨c, hci, rfl⟩ := nts_inv hi
      have hmem : c ∈ l := List.mem_of_getElem? hci
      have hil : i < l.length := (List.getElem?_eq_some_iff.mp hci).1
      have hdi := (s1.trans si) _ _ hd
      refine ⟨rfl, ?_⟩
      refine ⟨_, rfl, _, rfl, d, .int (f c), rfl, .inl ⟨_, .inl (c : Nat), .inl hdi, rfl, (foundD_val hmem).symm⟩, ?_⟩
      refine ⟨_, rfl, d, _, rfl, hdi, fun p hp => ?_⟩
      have s4 := Fi.Same.upd_new (Same.refl H') hp (o := valuesO p d)
      have ep : upd H' p (valuesO p d) p = some (valuesO p d) := upd_same
      generalize upd H' p (valuesO p d) = H4 at *
      refine ⟨p, d, _, _, rfl, ep, s4 _ _ hdi, foundD_vals _ _, fun z => ?_, rfl, decide (f c = lmax (l.map f)), ?_, ?_⟩
      · rw [List.map_eq_nil_iff.mp z] at hmem; cases hmem
      · rw [if_pos rfl]
        exact congrArg V.bl (decide_eq_decide.mpr ⟨fun z => by injection z, fun z => by rw [z]⟩)
      · rw [take_snoc hci, List.filter_append, List.filter_cons, List.filter_nil]
        refine ite2 (fun z => ?_) fun z => ?_
        · refine ⟨_, rfl, _, s4 _ _ ei, ?_, ?_, ?_⟩
          · rw [nts_len]
            have := List.length_filter_le (fun c => decide (f c = lmax (l.map f))) (l.take i)
            rw [List.length_take] at this
            exact le_size (by omega)
          · exact Fi.Same.upd_mine (si.trans s4) hD
          · rw [upd_same, if_pos z, ← nts_app]
        · exact ⟨si.trans s4, by rw [if_neg z, List.append_nil]; exact s4 _ _ ei⟩
    · rintro H' ⟨si, ei⟩
      rw [nts_len, List.take_length] at ei
      exact q D H' (s1.trans si) (same_none s1 hD) ei
end
end Fi
/-! the checker -/
namespace Fi
open PySem PySem.Spec PyProof.Rows L2
/-- a statement whose ends meet before the rest -/
def tJoin (t u : TS) : TS := fun D σ H => ∃ J : L2.St → Hp → Prop, t { D with nx := J } σ H ∧ ∀ σ' H', J σ' H' → u D σ' H'
theorem pss_join {X : Cx} {st : Stmt} {rest : List Stmt} {t u : TS} (h1 : L2.PS X st t) (h2 : PSs X rest u) : PSs X (st :: rest) (tJoin t u) := by
  refine ⟨fun pins s σ H D I h => ?_⟩
  obtain ⟨J, h, hj⟩ := h
  refine wpAny_execs_cons (thn (h1.run pins s σ H { D with nx := J } I h) fun f s1 q => ?_)
  cases f with
  | next =>
    obtain ⟨σ', H', I', q⟩ := q
    exact h2.run pins s1 σ' H' D I' (hj _ _ q)
  | ret v => exact q
  | brk => exact q
  | cont => exact q
abbrev Told := List (Psn × Nat)
abbrev Kept := List ((Psn × Int) × Bool)
def nv (c : Nat) : V := V.int (c : Nat)
def tdict (t : Told) : List (NestedKey × V) := gd nkey nv t
def gk (e : Psn × Int) : NestedKey := gkey e.1 e.2
theorem gk_inj (a b : Psn × Int) (h : gk a = gk b) : a = b := by
  obtain ⟨h1, h2⟩ := gkey_inj h
  exact Prod.ext h1 h2
def cdict (k : Kept) : List (NestedKey × V) := gd gk V.bl k
def tf (t : Told) (p : Psn) : Option Nat := glook t p
def CkOk (R side : Nat) (t : Told) (k : Kept) : Prop := ∀ e ∈ k, ∃ m, Wf m e.1.1 ∧ e.2 = hold R side (tf t) m e.1.1 e.1.2
structure CkC (K : PySem.W.Frag) (C : Addr) : Prop where
  cls : Cls K C
  n1 : NoAttr K C "side"
  n2 : NoAttr K C "told"
  n3 : NoAttr K C "known"
  n4 : NoAttr K C "used"
def fsC (side : Nat) (td kn us : Addr) : List (Str × V) := [("side", .int (side : Nat)), ("told", .ref td), ("known", .ref kn), ("used", .ref us)]
structure ChkAt (w : World) (CC cx td kn us : Addr) (side R : Nat) (H : Hp) (t : Told) (k : Kept) (u : Told) : Prop where
  ob : ∃ dx, H cx = some (.ins CC dx (fsC side td kn us))
  dtd : DN w H td (tdict t)
  dkn : DN w H kn (cdict k)
  dus : DN w H us (tdict u)
  ok : CkOk R side t k
  n1 : td ≠ kn
  n2 : td ≠ us
  n3 : kn ≠ us
theorem side_ne : ("side" : Str) ≠ "_deck" := by decide
section
variable {w : World} {CC cx td kn us : Addr} {side S R : Nat} {H H' : Hp} {t u : Told} {k : Kept}
theorem ChkAt.kp {Z : List Addr} (a : ChkAt w CC cx td kn us side R H t k u) (m : Kp Z H H') (h1 : cx ∉ Z) (h2 : td ∉ Z) (h3 : kn ∉ Z) (h4 : us ∉ Z) : ChkAt w CC cx td kn us side R H' t k u := by
  obtain ⟨dx, e⟩ := a.ob
  exact ⟨⟨dx, m.at e h1⟩, a.dtd.keep m.tk (fun o e => m.at e h2), a.dkn.keep m.tk (fun o e => m.at e h3), a.dus.keep m.tk (fun o e => m.at e h4), a.ok, a.n1, a.n2, a.n3⟩
theorem ChkAt.same (a : ChkAt w CC cx td kn us side R H t k u) (s : Same H H') : ChkAt w CC cx td kn us side R H' t k u := a.kp (Z := []) (Kp.same s) (by simp) (by simp) (by simp) (by simp)
theorem ChkAt.out {C x dk : Addr} {Y : List Addr} {n : Nat} {s : PS} (a : ChkAt w CC cx td kn us side R H t k u) (pl : Pl C x dk Y S R n H s) : cx ∉ Y ∧ td ∉ Y ∧ kn ∉ Y ∧ us ∉ Y := by
  obtain ⟨dx, e⟩ := a.ob
  obtain ⟨_, e2⟩ := a.dtd.is
  obtain ⟨_, e3⟩ := a.dkn.is
  obtain ⟨_, e4⟩ := a.dus.is
  exact ⟨pl.out e (notPK_ins side_ne), pl.out e2 notPK_ext, pl.out e3 notPK_ext, pl.out e4 notPK_ext⟩
theorem ChkAt.play {C x dk : Addr} {Y : List Addr} {n : Nat} {s : PS} (a : ChkAt w CC cx td kn us side R H t k u) (pl : Pl C x dk Y S R n H s) (m : Kp Y H H') : ChkAt w CC cx td kn us side R H' t k u :=
  let ⟨h1, h2, h3, h4⟩ := a.out pl
  a.kp m h1 h2 h3 h4
theorem ChkAt.cxne (a : ChkAt w CC cx td kn us side R H t k u) : cx ≠ kn ∧ cx ≠ us := by
  obtain ⟨dx, e⟩ := a.ob
  obtain ⟨_, e3⟩ := a.dkn.is
  obtain ⟨_, e4⟩ := a.dus.is
  exact ⟨ne_of e e3 (by intro h; cases h), ne_of e e4 (by intro h; cases h)⟩
theorem CkOk.put {p : Psn} {g : Int} {n : Nat} (h : CkOk R side t k) (wf : Wf n p) : CkOk R side t (gput k (p, g) (hold R side (tf t) n p g)) := fun e he => by
  rcases mem_gput he with q | q
  · exact h e q
  · rw [q]; exact ⟨n, wf, rfl⟩
theorem CkOk.look {p : Psn} {g : Int} {n : Nat} {b : Bool} (h : CkOk R side t k) (l : glook k (p, g) = some b) (wf : Wf n p) : b = hold R side (tf t) n p g := by
  obtain ⟨m, w', e⟩ := h _ (glook_mem l)
  have : m = n := w'.inj wf
  rw [← this]; exact e
/-- known[key] = value -/
theorem ChkAt.put {p : Psn} {g : Int} {n : Nat} {o : HO} (a : ChkAt w CC cx td kn us side R H t k u) (wf : Wf n p) (d : DN w (upd H kn o) kn (putK (cdict k) (gkey p g) (.bl (hold R side (tf t) n p g)))) :
    ChkAt w CC cx td kn us side R (upd H kn o) t (gput k (p, g) (hold R side (tf t) n p g)) u ∧ Kp [kn] H (upd H kn o) := by
  obtain ⟨dx, e⟩ := a.ob
  obtain ⟨φ, ek⟩ := a.dkn.is
  have m : Kp [kn] H (upd H kn o) := (Kp.refl [kn] H).chg ek not_imm_ext (.inl (by simp))
  refine ⟨⟨⟨dx, (upd_ne a.cxne.1).trans e⟩, a.dtd.keep m.tk (fun o e => m.at e (by simpa using a.n1)), ?_, a.dus.keep m.tk (fun o e => m.at e (by simpa using a.n3.symm)), a.ok.put wf, a.n1, a.n2, a.n3⟩, m⟩
  unfold cdict
  rw [gd_put gk_inj]
  exact d
/-- used[position] = card -/
theorem ChkAt.use {p : Psn} {c : Nat} {o : HO} (a : ChkAt w CC cx td kn us side R H t k u) (d : DN w (upd H us o) us (putK (tdict u) (nkey p) (nv c))) :
    ChkAt w CC cx td kn us side R (upd H us o) t k (gput u p c) ∧ Kp [us] H (upd H us o) := by
  obtain ⟨dx, e⟩ := a.ob
  obtain ⟨φ, ek⟩ := a.dus.is
  have m : Kp [us] H (upd H us o) := (Kp.refl [us] H).chg ek not_imm_ext (.inl (by simp))
  refine ⟨⟨⟨dx, (upd_ne a.cxne.2).trans e⟩, a.dtd.keep m.tk (fun o e => m.at e (by simpa using a.n2)), a.dkn.keep m.tk (fun o e => m.at e (by simpa using a.n3)), ?_, a.ok, a.n1, a.n2, a.n3⟩, m⟩
  unfold tdict
  rw [gd_put (fun _ _ => nkey_inj)]
  exact d
end
def spChkInit (w : World) (CC : Addr) : Sp := fun vs H Q _ => ∃ (cx dx td : Addr) (side R : Nat) (t : Told), vs = [.ref cx, .int (side : Nat), .ref td] ∧ H cx = some (.ins CC dx []) ∧ DN w H td (tdict t) ∧
  ∀ H' kn us, Kp [cx] H H' → H kn = none → H us = none → ChkAt w CC cx td kn us side R H' t [] [] → Q .non H'
def spHolds (w : World) (CC CP : Addr) (n : Nat) : Sp := fun vs H Q _ => ∃ (cx x dk td kn us : Addr) (Y : List Addr) (side S R : Nat) (s : PS) (t : Told) (k : Kept) (u : Told) (g : Int), vs = [.ref cx, .ref x, .int g] ∧ Pl CP x dk Y S R n H s ∧ ChkAt w CC cx td kn us side R H t k u ∧ side < 2 ∧
  k.length + Bn n ≤ 1000000 ∧ u.length + Bn n ≤ 1000000 ∧
  ∀ H' Y' k' u', Mut (kn :: us :: Y) (kn :: us :: Y') H H' → Pl CP x dk Y' S R n H' s → ChkAt w CC cx td kn us side R H' t k' u' → k'.length ≤ k.length + Bn n → u'.length ≤ u.length + Bn n → Q (.bl (hold R side (tf t) n s.p g)) H'
/-- found, of a play that is not over, for a goal that is not met -/
def spFound (w : World) (CC CP : Addr) (n : Nat) : Sp := fun vs H Q _ => ∃ (cx x dk td kn us : Addr) (Y : List Addr) (side S R : Nat) (s : PS) (t : Told) (k : Kept) (u : Told) (g : Int), vs = [.ref cx, .ref x, .int g] ∧ Pl CP x dk Y S R (n + 1) H s ∧ ChkAt w CC cx td kn us side R H t k u ∧ side < 2 ∧ 0 < g ∧
  k.length + Bn (n + 1) ≤ 1000000 ∧ u.length + Bn (n + 1) ≤ 1000000 ∧
  ∀ H' Y' k' u', Mut (kn :: us :: Y) (kn :: us :: Y') H H' → Pl CP x dk Y' S R (n + 1) H' s → ChkAt w CC cx td kn us side R H' t k' u' → k'.length + 1 ≤ k.length + Bn (n + 1) → u'.length ≤ u.length + Bn (n + 1) → Q (.bl (hold R side (tf t) (n + 1) s.p g)) H'
section
variable {P : Program} {w : World} {K : PySem.W.Frag} {mg : Str → Option Value} {base : Heap} {CC CP : Addr} {n : Nat}
theorem sc_Checker_init : FnScope ["self", "side", "told"] ["self", "side", "told"] (defScope (inClass (top 31) 0)) := ⟨rfl, rfl, rfl, by decide +kernel, rfl, by decide +kernel, by decide +kernel⟩
theorem ok_Checker_init (E : EntC K mg CC "Checker" "Checker.__init__" (inClass (top 31) 0)) (cc : CkC K CC) : Mc P w K mg base CC 1 "Checker" ["self", "side", "told"] (spChkInit w CC) := by
  refine mc_mk E sc_Checker_init (fun _ _ _ _ _ _ us hl => match us, hl with | [_, _, _], _ => rfl) (fun vs H Q E h => ?_) (fun f cdv A outer s H vs Q E hr h => ?_)
  · obtain ⟨cx, dx, td, side, R, t, rfl, _⟩ := h; rfl
  · obtain ⟨cx, dx, td, side, R, t, rfl, hx, ht, q⟩ := h
    refine ⟨_, (pss_cons (ps_fld (pv 0) (pv 1) rfl)
      (pss_cons (ps_fld (pv 0) (pv 2) rfl)
      (pss_cons (ps_fld (pv 0) pe_nnew rfl)
      (pss_one (ps_fld (pv 0) pe_nnew rfl))))), ?_⟩
    obtain ⟨φt, et⟩ := ht.is
    have ntx : td ≠ cx := ne_of et hx (by intro h; cases h)
    refine ⟨_, rfl, _, rfl, cx, CC, dx, _, rfl, hx, cc.cls, cc.n1, by show (0 : Nat) < 1000; decide, ?_⟩
    have k1 : Kp [cx] H (upd H cx (.ins CC dx (putF "side" (.int (side : Nat)) []))) := (Kp.refl [cx] H).chg hx not_imm_ins (.inl (by simp))
    have x1 : upd H cx (.ins CC dx (putF "side" (.int (side : Nat)) [])) cx = some (.ins CC dx [("side", .int (side : Nat))]) := upd_same
    generalize upd H cx (.ins CC dx (putF "side" (.int (side : Nat)) [])) = H1 at *
    refine ⟨_, rfl, _, rfl, cx, CC, dx, _, rfl, x1, cc.cls, cc.n2, by show (1 : Nat) < 1000; decide, ?_⟩
    have k2 : Kp [cx] H (upd H1 cx (.ins CC dx (putF "told" (.ref td) [("side", .int (side : Nat))]))) := k1.chg x1 not_imm_ins (.inl (by simp))
    have x2 : upd H1 cx (.ins CC dx (putF "told" (.ref td) [("side", .int (side : Nat))])) cx = some (.ins CC dx [("side", .int (side : Nat)), ("told", .ref td)]) := upd_same
    generalize upd H1 cx (.ins CC dx (putF "told" (.ref td) [("side", .int (side : Nat))])) = H2 at *
    intro kn o hk dn
    have nk : kn ≠ cx := ne_none x2 hk
    have k3 := k2.new (o := o) hk
    have x3 := (upd_ne (o := o) nk.symm).trans x2
    have okn := k2.free hk (by simpa using nk)
    generalize upd H2 kn o = H3 at *
    refine ⟨_, rfl, cx, CC, dx, _, rfl, x3, cc.cls, cc.n3, by show (2 : Nat) < 1000; decide, ?_⟩
    have j4 : Kp [cx] H3 (upd H3 cx (.ins CC dx (putF "known" (.ref kn) [("side", .int (side : Nat)), ("told", .ref td)]))) := (Kp.refl [cx] H3).chg x3 not_imm_ins (.inl (by simp))
    have x4 : upd H3 cx (.ins CC dx (putF "known" (.ref kn) [("side", .int (side : Nat)), ("told", .ref td)])) cx = some (.ins CC dx [("side", .int (side : Nat)), ("told", .ref td), ("known", .ref kn)]) := upd_same
    have dn4 := dn.keep j4.tk (fun o e => j4.at e (by simpa using nk))
    generalize upd H3 cx (.ins CC dx (putF "known" (.ref kn) [("side", .int (side : Nat)), ("told", .ref td)])) = H4 at *
    have k4 := k3.trans j4 (fun z hz => .inl hz)
    intro us o2 hu dn2
    have nu : us ≠ cx := ne_none x4 hu
    obtain ⟨φk, ekn⟩ := dn4.is
    have nku : us ≠ kn := ne_none ekn hu
    have ous := k4.free hu (by simpa using nu)
    have s5 := Fi.Same.upd_new (Same.refl H4) hu (o := o2)
    have dn5 := dn4.keep (fun a xs e => s5 a _ e) (fun o e => s5 _ _ e)
    have x5 := s5 _ _ x4
    have k5 := k4.new (o := o2) hu
    generalize upd H4 us o2 = H5 at *
    refine ⟨_, rfl, cx, CC, dx, _, rfl, x5, cc.cls, cc.n4, by show (3 : Nat) < 1000; decide, ?_⟩
    have j6 : Kp [cx] H5 (upd H5 cx (.ins CC dx (putF "used" (.ref us) [("side", .int (side : Nat)), ("told", .ref td), ("known", .ref kn)]))) := (Kp.refl [cx] H5).chg x5 not_imm_ins (.inl (by simp))
    have k6 := k5.trans j6 (fun z hz => .inl hz)
    refine q _ kn us k6 okn ous ⟨⟨dx, upd_same⟩, ht.keep k6.tk (fun o e => k6.at e (by simpa using ntx)), dn5.keep j6.tk (fun o e => j6.at e (by simpa using nk)), dn2.keep j6.tk (fun o e => j6.at e (by simpa using nu)), (fun e he => nomatch he), ?_, ?_, nku.symm⟩
    · exact fun z => by rw [← z, et] at okn; cases okn
    · exact fun z => by rw [← z, et] at ous; cases ous
end
end Fi
/-! holds and found -/
namespace Fi
open PySem PySem.Spec PyProof.Rows L2
theorem inV_neg {l : List Nat} : inV (.int (-1)) (nts l) = false := by
  unfold inV nts
  rw [List.any_map, List.any_eq_false]
  intro a _ h
  have e : ((a : Int) == (-1 : Int)) = true := h
  have := beq_iff_eq.mp e
  omega
section
variable {P : Program} {w : World} {K : PySem.W.Frag} {mg : Str → Option Value} {base : Heap} {CC CP : Addr} {n : Nat}
theorem sc_Checker_holds : FnScope ["self", "play", "goal", "key"] ["self", "play", "goal"] (defScope (inClass (top 31) 1)) := ⟨rfl, rfl, rfl, by decide +kernel, rfl, by decide +kernel, by decide +kernel⟩
theorem ok_Checker_holds (E : EntM K CC "holds" "Checker.holds" (inClass (top 31) 1)) (cc : CkC K CC) (M : PlayM P w K mg CP) {spF : Sp} (M_found : ∀ base, Mt P w K mg base CC (3 + 2 * n) "found" ["self", "play", "goal"] spF) (hF : ∀ m, n = m + 1 → spF = spFound w CC CP m) :
    Mt P w K mg base CC (4 + 2 * n) "holds" ["self", "play", "goal"] (spHolds w CC CP n) := by
  rw [show 4 + 2 * n = (3 + 2 * n) + 1 by omega]
  refine mt_mk E sc_Checker_holds (fun _ _ _ _ _ _ us hl => match us, hl with | [_, _, _], _ => rfl) (fun vs H Q E h => ?_) (fun f cdv A outer s H vs Q E hr h => ?_)
  · obtain ⟨cx, x, dk, td, kn, us, Y, side, S, R, s, t, k, u, g, rfl, _⟩ := h; rfl
  · obtain ⟨cx, x, dk, td, kn, us, Y, side, S, R, st, t, k, u, g, rfl, pl, ck, hsd, cap1, cap2, q⟩ := h
    refine ⟨_, (pss_cons (ps_if (pt_cmpR op_le (pv 2) pe_int (nomark _)) (pss_one (ps_ret pe_bl)) pss_nil)
      (pss_cons (ps_if (pt_val (pe_md0 (pv 1) M.pc.cls ((M.is_over _).mono (by omega)) hr)) (pss_one (ps_ret pe_bl)) pss_nil)
      (pss_cons (ps_set (i := 3) sc_Checker_holds.nd rfl (Or.inl rfl) (pe_tup (pa_cons (pe_md0 (pv 1) M.pc.cls ((M.position _).mono (by omega)) hr) (pa_cons (pv 2) pa_nil))))
      (pss_cons (ps_if (pt_cmp (pc_nnotin hr.units (pv 3) (pe_fld (pv 0) rfl))) (pss_one (ps_nput hr.units (pe_fld (pv 0) rfl) (pv 3) (pe_md (pv 0) cc.cls (M_found _) hr (pa_cons (pv 1) (pa_cons (pv 2) pa_nil))) rfl)) pss_nil)
      (pss_one (ps_ret (pe_nget hr.units (pe_fld (pv 0) rfl) (pv 3) (fun _ _ => rfl)))))))), ?_⟩
    have wf := pl.1.wf
    refine ⟨_, rfl, _, _, rfl, rfl, decide (g ≤ 0), rfl, ite2 (fun hg => ?_) fun hg => ?_⟩
    · have e : hold R side (tf t) n st.p g = true := hold_le (of_decide_eq_true hg)
      rw [e] at q
      exact q H Y k u (.refl _ _) pl ck (by omega) (by omega)
    have hg : ¬ g ≤ 0 := fun z => hg (decide_eq_true z)
    obtain ⟨_, _, _, _, _, _, hx⟩ := pl.ob
    refine ⟨_, rfl, x, _, _, rfl, hx, rfl, x, dk, Y, S, R, n, st, rfl, pl, fun H1 s1 => ?_⟩
    have pl1 := pl.same s1
    have ck1 := ck.same s1
    cases n with
    | zero =>
      refine ⟨true, rfl, iteT ?_⟩
      have e : hold R side (tf t) 0 st.p g = false := decide_eq_false hg
      rw [e] at q
      exact q H1 Y k u (.same s1) pl1 ck1 (by omega) (by omega)
    | succ n =>
    have eF := hF n rfl
    subst eF
    refine ⟨false, rfl, iteF ?_⟩
    refine ⟨_, rfl, x, _, _, rfl, s1 _ _ hx, rfl, x, dk, Y, S, R, n + 1, st, rfl, pl1, fun b H2 s2 hb pb => ?_⟩
    refine ⟨_, rfl, by show (2 : Nat) ≤ sizeLine; decide, fun kb hkb => ?_⟩
    have s3 := Fi.Same.upd_new (Same.refl H2) hkb (o := .tup [.ref b, .int g])
    have ekb : upd H2 kb (.tup [.ref b, .int g]) kb = some (.tup [.ref b, .int g]) := upd_same
    generalize upd H2 kb (.tup [.ref b, .int g]) = H3 at *
    have pb3 := pb.mono (fun a xs e => s3 a _ e)
    have s13 := s1.trans (s2.trans s3)
    have pl3 := pl.same s13
    have ck3 := ck.same s13
    obtain ⟨dxc, hc⟩ := ck3.ob
    have key : ∀ {H'}, TK H3 H' → KeyAt H' (.ref kb) kb (gkey st.p g) := fun tk => gkey_at (pb3.mono tk) (tk _ _ ekb)
    refine ⟨_, rfl, _, rfl, cx, CC, _, _, _, rfl, hc, cc.cls, cc.n3, rfl, kn, kb, gkey st.p g, _, rfl, key (fun _ _ e => e), ck3.dkn, ?_⟩
    have ev : ∀ k', valV (cdict k') (gkey st.p g) = (glook k' (st.p, g)).map V.bl := fun k' => gd_val gk_inj (st.p, g) k'
    rw [ev]
    cases el : glook k (st.p, g) with
    | some v =>
      have e := ck.ok.look el wf
      refine ⟨false, rfl, iteF ?_⟩
      refine ⟨_, rfl, cx, CC, _, _, _, rfl, hc, cc.cls, cc.n3, rfl, _, rfl, kn, kb, gkey st.p g, _, .bl v, rfl, key (fun _ _ e => e), ck3.dkn, by rw [ev, el]; rfl, ?_⟩
      rw [e]
      exact q H3 Y k u (.same s13) pl3 ck3 (by omega) (by omega)
    | none =>
      refine ⟨true, rfl, iteT ?_⟩
      refine ⟨_, rfl, cx, _, _, rfl, hc, rfl, _, rfl, _, rfl, cx, x, dk, td, kn, us, Y, side, S, R, st, t, k, u, g, rfl, pl3, ck3, hsd, by omega, cap1, cap2, fun H4 Y4 k4 u4 m4 pl4 ck4 c4 d4 => ?_⟩
      obtain ⟨dxc4, hc4⟩ := ck4.ob
      refine ⟨_, rfl, cx, CC, _, _, _, rfl, hc4, cc.cls, cc.n3, rfl, _, rfl, kn, kb, gkey st.p g, _, rfl, key m4.1.tk, ck4.dkn, le_size (by unfold cdict; rw [gd_len]; omega), fun o d5 => ?_⟩
      obtain ⟨ck5, k5⟩ := ck4.put wf d5
      obtain ⟨dxc5, hc5⟩ := ck5.ob
      have nY := (ck4.out pl4).2.2.1
      have pl5 := pl4.kp k5 (fun y hy => by
        rw [List.mem_singleton]
        rintro rfl
        exact nY hy)
      refine ⟨_, rfl, cx, CC, _, _, _, rfl, hc5, cc.cls, cc.n3, rfl, _, rfl, kn, kb, gkey st.p g, _, .bl (hold R side (tf t) (n + 1) st.p g), rfl, key (fun a xs e => k5.tk a xs (m4.1.tk a xs e)), ck5.dkn, by rw [ev, glook_put, if_pos rfl]; rfl, ?_⟩
      have m5 : Mut (kn :: us :: Y4) (kn :: us :: Y4) H4 (upd H4 kn o) := ⟨k5.mono fun y hy => .inl (by rw [List.mem_singleton.mp hy]; exact List.mem_cons_self ..), fun y hy => .inl hy⟩
      have hl5 := gput_len k4 (st.p, g) (hold R side (tf t) (n + 1) st.p g)
      exact q _ Y4 _ u4 ((Mut.same s13).trans (m4.trans m5)) pl5 ck5 (by omega) (by omega)
end
end Fi
/-! found -/
namespace Fi
open PySem PySem.Spec PyProof.Rows L2
section
variable {P : Program} {w : World} {K : PySem.W.Frag} {mg : Str → Option Value} {base : Heap} {CC CP : Addr} {n : Nat}
theorem sc_Checker_found : FnScope ["self", "play", "goal", "cards", "position", "card", "won", "good"] ["self", "play", "goal"] (defScope (inClass (top 31) 2)) := ⟨rfl, rfl, rfl, by decide +kernel, rfl, by decide +kernel, by decide +kernel⟩
theorem ok_Checker_found (E : EntM K CC "found" "Checker.found" (inClass (top 31) 2)) (T : Txt K mg) (cc : CkC K CC) (M : PlayM P w K mg CP) (D_side_of : ∀ base, Df P w K mg base 1 "side_of" ["player"] spSide) (M_holds : ∀ base, Mt P w K mg base CC (4 + 2 * n) "holds" ["self", "play", "goal"] (spHolds w CC CP n)) :
    Mt P w K mg base CC (5 + 2 * n) "found" ["self", "play", "goal"] (spFound w CC CP n) := by
  rw [show 5 + 2 * n = (4 + 2 * n) + 1 by omega]
  refine mt_mk E sc_Checker_found (fun _ _ _ _ _ _ us hl => match us, hl with | [_, _, _], _ => rfl) (fun vs H Q E h => ?_) (fun f cdv A outer s H vs Q E hr h => ?_)
  · obtain ⟨cx, x, dk, td, kn, us, Y, side, S, R, s, t, k, u, g, rfl, _⟩ := h; rfl
  · obtain ⟨cx, x, dk, td, kn, us, Y, side, S, R, st, t, k, u, g, rfl, pl, ck, hsd, g0, cap1, cap2, q⟩ := h
    refine ⟨_, (pss_cons (ps_set (i := 3) sc_Checker_found.nd rfl (Or.inl rfl) (pe_md0 (pv 1) M.pc.cls ((M.legal _).mono (by omega)) hr))
      (pss_join (ps_if (pt_cmpR op_eq (pe_cd ((D_side_of _).mono (by omega)) hr rfl (pa_cons (pe_md0 (pv 1) M.pc.cls ((M.turn _).mono (by omega)) hr) pa_nil)) (pe_fld (pv 0) rfl) (nomark _)) (pss_cons (ps_set (i := 4) sc_Checker_found.nd rfl (Or.inl rfl) (pe_md0 (pv 1) M.pc.cls ((M.position _).mono (by omega)) hr))
      (pss_cons (ps_set (i := 5) sc_Checker_found.nd rfl (Or.inl rfl) (pe_nget2 hr.units (pe_fld (pv 0) rfl) (pv 4) (pe_un un_neg pe_int) ⟨rfl, rfl, rfl, rfl⟩))
      (pss_cons (ps_if (pt_cmpR op_notIn_seq (pv 5) (pv 3) rfl) (pss_one (ps_ret pe_bl)) pss_nil)
      (pss_cons (ps_nput hr.units (pe_fld (pv 0) rfl) (pv 4) (pv 5) rfl)
      (pss_one (ps_set (i := 3) sc_Checker_found.nd rfl (Or.inl rfl) (pe_lst (pa_cons (pv 5) pa_nil)))))))) pss_nil)
      (pss_cons (ps_set (i := 6) sc_Checker_found.nd rfl (Or.inl rfl) (pe_md (pv 1) M.pc.cls ((M.tricks _).mono (by omega)) hr (pa_cons (pe_fld (pv 0) rfl) pa_nil)))
      (pss_cons (ps_set (i := 7) sc_Checker_found.nd rfl (Or.inl rfl) pe_bl)
      (pss_cons (ps_for PassesOwn.never rfl (pi_list (pv 3)) (pg_name (i := 5) sc_Checker_found.nd rfl (Or.inl rfl)) (pss_cons (ps_expr (pe_md (pv 1) M.pc.cls ((M.put _).mono (by omega)) hr (pa_cons (pv 5) pa_nil)))
      (pss_cons (ps_set (i := 7) sc_Checker_found.nd rfl (Or.inl rfl) (pe_and (pe_md (pv 0) cc.cls (M_holds _) hr (pa_cons (pv 1) (pa_cons (pe_op op_add (pe_op op_sub (pv 2) (pe_md (pv 1) M.pc.cls ((M.tricks _).mono (by omega)) hr (pa_cons (pe_fld (pv 0) rfl) pa_nil))) (pv 6)) pa_nil))) (pe_one (pv 7))))
      (pss_one (ps_expr (pe_md0 (pv 1) M.pc.cls ((M.take_back _).mono (by omega)) hr))))))
      (pss_one (ps_ret (pv 7)))))))), ?_⟩
    have wf := pl.1.wf
    have r1 := pl.1.r1
    have hlen := legal_le r1 wf
    have h100 := pl.1.h100
    have hB : Bn (n + 1) = 1 + ((n + 4) / 4) * Bn n := rfl
    obtain ⟨_, _, _, _, _, _, hx⟩ := pl.ob
    obtain ⟨dxc, hc⟩ := ck.ob
    refine ⟨_, rfl, x, _, _, rfl, hx, rfl, x, dk, Y, S, R, n + 1, st, rfl, pl, fun lp H1 s1 hlp elp => ?_⟩
    have pl1 := pl.same s1
    have ck1 := ck.same s1
    -- what holds where the ends of the `if` meet
    refine ⟨fun σ H' => ∃ ca L uu x4 x5, σ = [some (.ref cx), some (.ref x), some (.int g), some (.ref ca), x4, x5, none, none] ∧ H ca = none ∧ H' ca = some (.lst (nts L)) ∧ Kp [us] H H' ∧ Pl CP x dk Y S R (n + 1) H' st ∧ ChkAt w CC cx td kn us side R H' t k uu ∧
      uu.length ≤ u.length + 1 ∧ (∀ c ∈ L, c ∈ legal R st.p) ∧ L.length ≤ (n + 4) / 4 ∧ hold R side (tf t) (n + 1) st.p g = L.all fun c => hold R side (tf t) n (nxt R st.p c) (g - gain R side st.p c), ?_, ?_⟩
    · refine ⟨_, rfl, x, _, _, rfl, s1 _ _ hx, rfl, x, dk, Y, S, R, n, st, rfl, pl1, fun H2 s2 => ?_⟩
      have s12 := s1.trans s2
      have pl2 := pl.same s12
      have ck2 := ck.same s12
      refine ⟨_, rfl, _, rfl, cx, CC, _, _, _, rfl, s12 _ _ hc, cc.cls, cc.n1, rfl, rfl, decide (mover st.p % 2 = side), ?_, ite2 (fun ht => ?_) fun ht => ?_⟩
      · exact congrArg V.bl (decide_eq_decide.mpr ⟨fun z => by injection z with z; omega, fun z => by rw [z]⟩)
      · have ht := of_decide_eq_true ht
        refine ⟨_, rfl, x, _, _, rfl, s12 _ _ hx, rfl, x, dk, Y, S, R, n + 1, st, rfl, pl2, fun b H3 s3 hb pb => ?_⟩
        have s13 := s12.trans s3
        have pl3 := pl.same s13
        have ck3 := ck.same s13
        refine ⟨_, rfl, cx, CC, _, _, _, rfl, s13 _ _ hc, cc.cls, cc.n2, rfl, td, rfl, ⟨_, ck3.dtd⟩, _, rfl, _, rfl, b, nkey st.p, _, pb.key, ck3.dtd, ?_⟩
        have ev : valV (tdict t) (nkey st.p) = (tf t st.p).map nv := gd_val (fun _ _ => nkey_inj) st.p t
        rw [ev]
        have elp3 := s3 _ _ (s2 _ _ elp)
        have eH : hold R side (tf t) (n + 1) st.p g = match tf t st.p with
            | some c => decide (c ∈ legal R st.p) && hold R side (tf t) n (nxt R st.p c) (g - gain R side st.p c)
            | none => false := by
          rw [hold, if_neg (by omega), if_pos ht]
          all_goals (cases tf t st.p <;> rfl)
        cases et : tf t st.p with
        | none =>
          rw [et] at eH
          refine ⟨_, rfl, _, rfl, lp, _, rfl, .inl (SqL.of elp3), rfl, flat_nts _, true, ?_, iteT ?_⟩
          · show V.bl (!inV (V.int (-1)) (nts (legal R st.p))) = V.bl true
            rw [inV_neg]; rfl
          have eH : hold R side (tf t) (n + 1) st.p g = false := eH
          rw [eH] at q
          exact q H3 Y k u (.same s13) pl3 ck3 (by omega) (by omega)
        | some c =>
          rw [et] at eH
          have eH : hold R side (tf t) (n + 1) st.p g = (decide (c ∈ legal R st.p) && hold R side (tf t) n (nxt R st.p c) (g - gain R side st.p c)) := eH
          by_cases hc' : c ∈ legal R st.p
          · refine ⟨_, rfl, _, rfl, lp, _, rfl, .inl (SqL.of elp3), rfl, flat_nts _, false, ?_, iteF ?_⟩
            · show V.bl (!inV (V.int (c : Nat)) (nts (legal R st.p))) = V.bl false
              rw [inV_nts, decide_eq_true hc']; rfl
            refine ⟨_, rfl, _, rfl, cx, CC, _, _, _, rfl, s13 _ _ hc, cc.cls, cc.n4, rfl, _, rfl, us, b, nkey st.p, _, rfl, pb.key, ck3.dus, le_size (by unfold tdict; rw [gd_len]; omega), fun o d4 => ?_⟩
            obtain ⟨ck4, k4⟩ := ck3.use d4
            have nY := (ck3.out pl3).2.2.2
            have pl4 := pl3.kp k4 (fun y hy => by
              rw [List.mem_singleton]
              rintro rfl
              exact nY hy)
            have kk : Kp [us] H (upd H3 us o) := (Kp.same s13).trans k4 (fun z hz => .inl hz)
            have back : ∀ a, upd H3 us o a = none → H a = none := fun a e => kk.free e (by
              rw [List.mem_singleton]
              rintro rfl
              rw [upd_same] at e; cases e)
            generalize upd H3 us o = H4 at *
            refine ⟨_, rfl, by show (1 : Nat) ≤ sizeLine; decide, fun ca hca => ?_⟩
            have s5 := Fi.Same.upd_new (Same.refl H4) hca (o := .lst [.int (c : Nat)])
            refine ⟨ca, [c], gput u st.p c, _, _, rfl, back _ hca, upd_same, kk.trans (Kp.same s5 : Kp [] H4 _) (fun z hz => nomatch hz), pl4.same s5, ck4.same s5, gput_len _ _ _, fun c' hc2 => ?_, by show 1 ≤ (n + 4) / 4; omega, ?_⟩
            · rw [List.mem_singleton.mp hc2]; exact hc'
            · rw [eH, decide_eq_true hc']; simp
          · refine ⟨_, rfl, _, rfl, lp, _, rfl, .inl (SqL.of elp3), rfl, flat_nts _, true, ?_, iteT ?_⟩
            · show V.bl (!inV (V.int (c : Nat)) (nts (legal R st.p))) = V.bl true
              rw [inV_nts, decide_eq_false hc']; rfl
            rw [decide_eq_false hc', Bool.false_and] at eH
            rw [eH] at q
            exact q H3 Y k u (.same s13) pl3 ck3 (by omega) (by omega)
      · have ht : ¬ mover st.p % 2 = side := fun z => ht (decide_eq_true z)
        refine ⟨lp, legal R st.p, u, _, _, rfl, hlp, s2 _ _ elp, Kp.same s12, pl2, ck2, by omega, fun c h => h, hlen, ?_⟩
        rw [hold, if_neg (by omega), if_neg ht]
    · rintro σ H2 ⟨ca, L, uu, x4, x5, rfl, hca, eca, k2, pl2, ck2, hu, hL, hLl, eH⟩
      obtain ⟨_, _, _, _, _, _, hx2⟩ := pl2.ob
      obtain ⟨dxc2, hc2⟩ := ck2.ob
      refine ⟨_, rfl, x, _, _, rfl, hx2, rfl, _, rfl, cx, CC, _, _, _, rfl, hc2, cc.cls, cc.n1, rfl, x, dk, Y, S, R, n + 1, st, side, rfl, pl2, hsd, ?_⟩
      have nca : ca ∉ kn :: us :: Y := by
        obtain ⟨_, e1⟩ := ck.dkn.is
        obtain ⟨_, e2⟩ := ck.dus.is
        rintro (_ | ⟨_, _ | ⟨_, z⟩⟩)
        · rw [hca] at e1; cases e1
        · rw [hca] at e2; cases e2
        · exact pl.new hca z
      refine ⟨_, rfl, ca, rfl, ⟨_, SqL.of eca⟩, ?_⟩
      refine for_list (xs := nts L) (fun i σ H' => ∃ Yi ki ui y5, Mut (kn :: us :: Y) (kn :: us :: Yi) H2 H' ∧ Pl CP x dk Yi S R (n + 1) H' st ∧ ChkAt w CC cx td kn us side R H' t ki ui ∧ ki.length ≤ k.length + i * Bn n ∧ ui.length ≤ uu.length + i * Bn n ∧
        σ = [some (.ref cx), some (.ref x), some (.int g), some (.ref ca), x4, y5, some (.int (wn st side)), some (.bl ((L.take i).all fun c => hold R side (tf t) n (nxt R st.p c) (g - gain R side st.p c)))]) ⟨Y, k, uu, x5, .refl _ _, pl2, ck2, by omega, by omega, rfl⟩ ?_ ?_ ?_
      · rintro i σ H' hi ⟨Yi, ki, ui, y5, mi, pli, cki, c1, c2, rfl⟩
        exact SqL.of (mi.1.at eca nca)
      · rintro i v σ H' hi ⟨Yi, ki, ui, y5, mi, pli, cki, c1, c2, rfl⟩
        obtain ⟨c, hci, rfl⟩ := nts_inv hi
        have hmem : c ∈ legal R st.p := hL c (List.mem_of_getElem? hci)
        have hil : i < L.length := (List.getElem?_eq_some_iff.mp hci).1
        have hmul : (i + 1) * Bn n ≤ ((n + 4) / 4) * Bn n := Nat.mul_le_mul_right _ (by omega)
        have hmul2 : (i + 1) * Bn n = i * Bn n + Bn n := Nat.succ_mul _ _
        obtain ⟨_, _, _, _, _, _, hxi⟩ := pli.ob
        refine ⟨_, rfl, x, _, _, rfl, hxi, rfl, _, rfl, x, dk, Yi, S, R, n, st, c, rfl, pli, hmem, fun Ha Ya a b ma pla un => ?_⟩
        have cka := cki.play pli ma.1
        obtain ⟨_, _, _, _, _, _, hxa⟩ := pla.ob
        obtain ⟨dxa, hca2⟩ := cka.ob
        refine ⟨_, rfl, cx, _, _, rfl, hca2, rfl, _, rfl, _, rfl, _, rfl, x, _, _, rfl, hxa, rfl, _, rfl, cx, CC, _, _, _, rfl, hca2, cc.cls, cc.n1, rfl, x, dk, Ya, S, R, n, _, side, rfl, pla, hsd, _, _, rfl, rfl, _, rfl, _, _, rfl, rfl, ?_⟩
        have eg : g - wn (putS R st c a b) side + wn st side = g - gain R side st.p c := by rw [wn_put hsd]; omega
        refine ⟨cx, x, dk, td, kn, us, Ya, side, S, R, putS R st c a b, t, ki, ui, g - gain R side st.p c, congrArg (fun z => [V.ref cx, V.ref x, V.int z]) eg, pla, cka, hsd, by omega, by omega, fun Hb Yb kb ub mb plb ckb cb db => ?_⟩
        have eP : (putS R st c a b).p = nxt R st.p c := rfl
        rw [eP]
        refine ⟨_, rfl, ?_⟩
        have eA : ((L.take (i + 1)).all fun c => hold R side (tf t) n (nxt R st.p c) (g - gain R side st.p c)) = (((L.take i).all fun c => hold R side (tf t) n (nxt R st.p c) (g - gain R side st.p c)) && hold R side (tf t) n (nxt R st.p c) (g - gain R side st.p c)) := by
          rw [take_snoc hci, List.all_append]; simp
        have fin : ∀ z : Bool, z = ((L.take (i + 1)).all fun c => hold R side (tf t) n (nxt R st.p c) (g - gain R side st.p c)) → ∀ y5', ∀ Hd Yd, Mut Yb Yd Hb Hd → Pl CP x dk Yd S R (n + 1) Hd st → ∃ Yi ki ui y5, Mut (kn :: us :: Y) (kn :: us :: Yi) H2 Hd ∧ Pl CP x dk Yi S R (n + 1) Hd st ∧ ChkAt w CC cx td kn us side R Hd t ki ui ∧ ki.length ≤ k.length + (i + 1) * Bn n ∧ ui.length ≤ uu.length + (i + 1) * Bn n ∧
            [some (.ref cx), some (.ref x), some (.int g), some (.ref ca), x4, y5', some (.int (wn st side)), some (.bl z)] = [some (.ref cx), some (.ref x), some (.int g), some (.ref ca), x4, y5, some (.int (wn st side)), some (.bl ((L.take (i + 1)).all fun c => hold R side (tf t) n (nxt R st.p c) (g - gain R side st.p c)))] := fun z ez y5' Hd Yd md pld =>
          ⟨Yd, kb, ub, y5', mi.trans ((ma.more (Z := [kn, us])).trans (mb.trans (md.more (Z := [kn, us])))), pld, ckb.play plb md.1, by omega, by omega, by rw [ez]⟩
        obtain ⟨_, _, _, _, _, _, hxb⟩ := plb.ob
        have unb := un.mono mb.1.tk
        refine ite2 (fun hh => ?_) fun hh => ?_
        · refine ⟨_, rfl, ?_⟩
          refine ⟨_, rfl, x, _, _, rfl, hxb, rfl, x, dk, Yb, S, R, n, st, c, a, b, rfl, plb, pl.1, hmem, unb, fun Hd Yd md pld => ?_⟩
          exact fin _ (by rw [eA, hh, Bool.and_true]) _ Hd Yd md pld
        · refine ⟨_, rfl, x, _, _, rfl, hxb, rfl, x, dk, Yb, S, R, n, st, c, a, b, rfl, plb, pl.1, hmem, unb, fun Hd Yd md pld => ?_⟩
          exact fin _ (by
            have : hold R side (tf t) n (nxt R st.p c) (g - gain R side st.p c) = false := by simpa using hh
            rw [eA, this, Bool.and_false]) _ Hd Yd md pld
      · rintro σ H' ⟨Yl, kl, ul, y5, ml, pll, ckl, c1, c2, rfl⟩
        rw [nts_len] at c1 c2 ⊢
        rw [List.take_length, ← eH]
        have hmul : L.length * Bn n ≤ ((n + 4) / 4) * Bn n := Nat.mul_le_mul_right _ hLl
        have m2 : Mut (kn :: us :: Y) (kn :: us :: Y) H H2 := ⟨k2.mono fun y hy => .inl (by rw [List.mem_singleton.mp hy]; simp), fun y hy => .inl hy⟩
        exact ⟨_, rfl, q H' Yl kl ul (m2.trans ml) pll ckl (by omega) (by omega)⟩
end
end Fi
/-! papers; checked, paper_holds -/
namespace Fi
open PySem PySem.Spec PyProof.Rows L2
def kp (b : Psn × Nat) : NestedKey := nkey b.1
def vp (b : Psn × Nat) : Int := (b.2 : Nat)
/-- at pp stands the paper B -/
def PapAt (H : Hp) (pp : Addr) (B : Told) : Prop := ∃ ob ps, H pp = some (.frz ob (.tup (ps.map V.ref))) ∧ PlainT ob ∧ PairsH kp vp H ps B
theorem PapAt.kp {Y : List Addr} {H H' : Hp} {pp : Addr} {B : Told} (h : PapAt H pp B) (k : Kp Y H H') : PapAt H' pp B := by
  obtain ⟨ob, ps, e, p, q⟩ := h
  exact ⟨ob, ps, k _ _ e (.inr trivial), p, q.mono k.tk⟩
theorem PapAt.same {H H' : Hp} {pp : Addr} {B : Told} (h : PapAt H pp B) (k : Same H H') : PapAt H' pp B := h.kp (Y := []) (Kp.same k)
theorem kp_depth (b : Psn × Nat) : (kp b).depth ≤ 8 := Nat.le_trans (nkey_depth b.1) (by decide)
def spChecked (CG : Addr) : Sp := fun vs H Q _ => ∃ (x dk pp : Addr) (Y : List Addr) (side S R n : Nat) (s : PS) (g : Int) (B : Told), vs = [.ref x, .int (side : Nat), .int g, .ref pp] ∧ Pl CG x dk Y S R n H s ∧ n ≤ 12 ∧ side < 2 ∧ PapAt H pp B ∧ (B.map (·.1)).Nodup ∧
  ∀ H' tp cx, Same H H' → H' tp = some (.tup [.ref cx, .bl (hold R side (tf B) n s.p g)]) → Q (.ref tp) H'
def spPaperHolds (CG : Addr) : Sp := fun vs H Q _ => ∃ (x dk pp : Addr) (Y : List Addr) (side S R n : Nat) (s : PS) (g : Int) (B : Told), vs = [.ref x, .int (side : Nat), .int g, .ref pp] ∧ Pl CG x dk Y S R n H s ∧ n ≤ 12 ∧ side < 2 ∧ PapAt H pp B ∧ (B.map (·.1)).Nodup ∧
  Ret H (.bl (hold R side (tf B) n s.p g)) Q
theorem kp_nodup : ∀ {B : Told}, (B.map (·.1)).Nodup → (B.map kp).Nodup
  | [], _ => List.nodup_nil
  | b :: B, h => by
    rw [List.map_cons, List.nodup_cons] at h ⊢
    refine ⟨fun z => ?_, kp_nodup h.2⟩
    obtain ⟨b', hb, e⟩ := List.mem_map.mp z
    exact h.1 (List.mem_map.mpr ⟨b', hb, nkey_inj e⟩)
section
variable {P : Program} {w : World} {K : PySem.W.Frag} {mg : Str → Option Value} {base : Heap} {CC CP CG : Addr}
theorem checker_all (E1 : EntM K CC "holds" "Checker.holds" (inClass (top 31) 1)) (E2 : EntM K CC "found" "Checker.found" (inClass (top 31) 2)) (T : Txt K mg) (cc : CkC K CC) (M : PlayM P w K mg CP) (D_side_of : ∀ base, Df P w K mg base 1 "side_of" ["player"] spSide) :
    ∀ n, (∀ base, Mt P w K mg base CC (4 + 2 * n) "holds" ["self", "play", "goal"] (spHolds w CC CP n))
  | 0 => by
    have never : ∀ base, Mt P w K mg base CC 1 "found" ["self", "play", "goal"] (fun _ _ _ _ => False) := fun base =>
      mt_mk (k := 0) E2 sc_Checker_found (fun _ _ _ _ _ _ us hl => match us, hl with | [_, _, _], _ => rfl) (fun _ _ _ _ h => h.elim) (fun _ _ _ _ _ _ _ _ _ _ h => h.elim)
    exact fun base => ok_Checker_holds (n := 0) E1 cc M (fun base => (never base).mono (by decide)) (fun m h => by omega)
  | n + 1 => by
    have ih := checker_all E1 E2 T cc M D_side_of n
    have a := fun base => ok_Checker_found (base := base) (n := n) E2 T cc M D_side_of ih
    exact fun base => ok_Checker_holds (n := n + 1) (spF := spFound w CC CP n) E1 cc M (fun base => (a base).mono (by omega)) (fun m h => by
      have : m = n := by omega
      rw [this])
theorem sc_checked : FnScope ["play", "side", "goal", "paper", "checker"] ["play", "side", "goal", "paper"] (defScope (top 32)) := ⟨rfl, rfl, rfl, by decide +kernel, rfl, by decide +kernel, by decide +kernel⟩
theorem ok_checked (E : EntF K mg "checked" (top 32)) (T : Txt K mg) (cc : CkC K CC) (G : PlayM P w K mg CG) (D_play_at : ∀ base, Df P w K mg base 4 "play_at" ["deck", "position"] (spPlayAt CP)) (N_Checker : ∀ base, Mc P w K mg base CC 1 "Checker" ["self", "side", "told"] (spChkInit w CC))
    (M_holds : ∀ n base, Mt P w K mg base CC (4 + 2 * n) "holds" ["self", "play", "goal"] (spHolds w CC CP n)) : Df P w K mg base 31 "checked" ["play", "side", "goal", "paper"] (spChecked CG) := by
  refine df_mk E sc_checked (fun _ _ _ _ _ _ us hl => match us, hl with | [_, _, _, _], _ => rfl) (fun vs H Q E h => ?_) (fun f cdv A outer s H vs Q E hr h => ?_)
  · obtain ⟨x, dk, pp, Y, side, S, R, n, s, g, B, rfl, _⟩ := h; rfl
  · obtain ⟨x, dk, pp, Y, side, S, R, n, st, g, B, rfl, pl, n12, hsd, pap, nd, q⟩ := h
    refine ⟨_, (pss_cons (ps_set (i := 4) sc_checked.nd rfl (Or.inl rfl) (pe_nd ((N_Checker _).mono (by decide : 1 ≤ 29)) hr rfl (pa_cons (pv 1) (pa_cons (pe_callTy (call_dictPN rfl hr.units (kf := kp) (vf := vp)) rfl T.f_dict (by decide +kernel) (pa_cons (pv 3) pa_nil)) pa_nil))))
      (pss_one (ps_ret (pe_tup (pa_cons (pv 4) (pa_cons (pe_md (pv 4) cc.cls ((M_holds n _).mono (by omega)) hr (pa_cons (pe_cd ((D_play_at _).mono (by decide)) hr rfl (pa_cons (pe_md0 (pv 0) G.pc.cls ((G.deck _).mono (by decide)) hr) (pa_cons (pe_md0 (pv 0) G.pc.cls ((G.position _).mono (by decide)) hr) pa_nil))) (pa_cons (pv 2) pa_nil))) pa_nil)))))), ?_⟩
    obtain ⟨ob, ps, ep, pt, pp2⟩ := pap
    refine ⟨_, rfl, _, rfl, pp, ob, ps, B, rfl, ep, pt, pp2, fun b _ => kp_depth b, kp_nodup nd, fun td o htd dtd => ?_⟩
    have s1 := Fi.Same.upd_new (Same.refl H) htd (o := o)
    generalize upd H td o = H1 at *
    intro cx dxc hcx hdx hne
    have s2 : Same H1 (upd (upd H1 dxc (.own cx)) cx (.ins CC dxc [])) := Fi.Same.upd_mine (Fi.Same.upd_new (Same.refl H1) hdx) hcx
    have e2 : upd (upd H1 dxc (.own cx)) cx (.ins CC dxc []) cx = some (.ins CC dxc []) := upd_same
    generalize upd (upd H1 dxc (.own cx)) cx (.ins CC dxc []) = H2 at *
    refine ⟨cx, dxc, td, side, R, B, rfl, e2, dtd.keep (fun a xs e => s2 a _ e) (fun o e => s2 _ _ e), fun H3 kn us k3 hkn hus ck => ⟨rfl, ?_⟩⟩
    have s3 : Same H1 H3 := fun a u e => k3 a u (s2 a u e) (.inl (by
      rw [List.mem_singleton]
      rintro rfl
      rw [hcx] at e; cases e))
    have s13 := s1.trans s3
    have pl3 := pl.same s13
    obtain ⟨dxc3, hc3⟩ := ck.ob
    obtain ⟨_, _, _, _, _, _, hx3⟩ := pl3.ob
    refine ⟨_, rfl, _, rfl, cx, _, _, rfl, hc3, rfl, ?_⟩
    refine ⟨_, rfl, x, _, _, rfl, hx3, rfl, x, dk, Y, S, R, n, st, rfl, pl3, ?_⟩
    refine ⟨_, rfl, x, _, _, rfl, hx3, rfl, x, dk, Y, S, R, n, st, rfl, pl3, fun b H4 s4 hb pb => ?_⟩
    refine ⟨dk, b, S, R, n, st.p, rfl, (pl3.same s4).2.1, pb, pl.1.own, fun H5 o Yo s5 no plo => ?_⟩
    have s35 := s4.trans s5
    have hB : Bn n ≤ 7735 := by rw [← Bn_12]; exact Bn_mono n12
    refine ⟨_, rfl, cx, o, dk, td, kn, us, Yo, side, S, R, _, B, [], [], g, rfl, plo, ck.same s35, hsd, by show 0 + Bn n ≤ 1000000; omega, by show 0 + Bn n ≤ 1000000; omega, fun H6 Y6 k6 u6 m6 pl6 ck6 c6 d6 => ?_⟩
    have s6 : Same H H6 := fun a u e => m6.1 a u (s35 a u (s13 a u e)) (.inl (by
      rintro (_ | ⟨_, _ | ⟨_, z⟩⟩)
      · have := s2 _ _ (s1 _ _ e); rw [hkn] at this; cases this
      · have := s2 _ _ (s1 _ _ e); rw [hus] at this; cases this
      · have := no a z; rw [s4 _ _ (s13 _ _ e)] at this; cases this))
    refine ⟨by show (2 : Nat) ≤ sizeLine; decide, fun tp htp => ?_⟩
    exact q _ tp cx (Fi.Same.upd_new s6 htp) upd_same
theorem sc_paper_holds : FnScope ["play", "side", "goal", "paper"] ["play", "side", "goal", "paper"] (defScope (top 33)) := ⟨rfl, rfl, rfl, by decide +kernel, rfl, by decide +kernel, by decide +kernel⟩
theorem ok_paper_holds (E : EntF K mg "paper_holds" (top 33)) (D_checked : ∀ base, Df P w K mg base 31 "checked" ["play", "side", "goal", "paper"] (spChecked CG)) : Df P w K mg base 32 "paper_holds" ["play", "side", "goal", "paper"] (spPaperHolds CG) := by
  refine df_mk E sc_paper_holds (fun _ _ _ _ _ _ us hl => match us, hl with | [_, _, _, _], _ => rfl) (fun vs H Q E h => ?_) (fun f cdv A outer s H vs Q E hr h => ?_)
  · obtain ⟨x, dk, pp, Y, side, S, R, n, s, g, B, rfl, _⟩ := h; rfl
  · obtain ⟨x, dk, pp, Y, side, S, R, n, st, g, B, rfl, pl, n12, hsd, pap, nd, q⟩ := h
    refine ⟨_, (pss_one (ps_ret (pe_ix ix_tup (pe_cd (D_checked _) hr rfl (pa_cons (pv 0) (pa_cons (pv 1) (pa_cons (pv 2) (pa_cons (pv 3) pa_nil))))) pe_int (fun _ _ => rfl)))), ?_⟩
    refine ⟨_, rfl, _, rfl, _, rfl, _, rfl, x, dk, pp, Y, side, S, R, n, st, g, B, rfl, pl, n12, hsd, pap, nd, fun H' tp cx sm etp => ?_⟩
    exact ⟨tp, _, _, _, rfl, rfl, SqT.of etp, at_of (j := 1) rfl rfl, q H' sm⟩
end
end Fi
/-! the maker of papers: its object -/
namespace Fi
open PySem PySem.Spec PyProof.Rows L2
abbrev Seen := List (Psn × Unit)
def tv (_ : Unit) : V := V.bl true
def sdict (s : Seen) : List (NestedKey × V) := gd nkey tv s
structure MkC (K : PySem.W.Frag) (C : Addr) : Prop where
  cls : Cls K C
  n1 : NoAttr K C "side"
  n2 : NoAttr K C "solver"
  n3 : NoAttr K C "told"
  n4 : NoAttr K C "seen"
def fsM (side : Nat) (sx td sn : Addr) : List (Str × V) := [("side", .int (side : Nat)), ("solver", .ref sx), ("told", .ref td), ("seen", .ref sn)]
structure MakAt (w : World) (CM CS mx sx dk td sn kn : Addr) (side S R : Nat) (H : Hp) (t : Told) (s : Seen) (k : Known) : Prop where
  ob : ∃ dx, H mx = some (.ins CM dx (fsM side sx td sn))
  so : SolAt w CS sx dk kn S R H k
  dtd : DN w H td (tdict t)
  dsn : DN w H sn (sdict s)
  n1 : td ≠ kn
  n2 : td ≠ sn
  n3 : sn ≠ kn
section
variable {w : World} {CM CS mx sx dk td sn kn : Addr} {side S R : Nat} {H H' : Hp} {t : Told} {s : Seen} {k : Known}
theorem MakAt.kp {Z : List Addr} (a : MakAt w CM CS mx sx dk td sn kn side S R H t s k) (m : Kp Z H H') (h1 : mx ∉ Z) (h2 : sx ∉ Z) (h3 : td ∉ Z) (h4 : sn ∉ Z) (h5 : kn ∉ Z) : MakAt w CM CS mx sx dk td sn kn side S R H' t s k := by
  obtain ⟨dx, e⟩ := a.ob
  exact ⟨⟨dx, m.at e h1⟩, a.so.kp m h2 h5, a.dtd.keep m.tk (fun o e => m.at e h3), a.dsn.keep m.tk (fun o e => m.at e h4), a.n1, a.n2, a.n3⟩
theorem MakAt.same (a : MakAt w CM CS mx sx dk td sn kn side S R H t s k) (m : Same H H') : MakAt w CM CS mx sx dk td sn kn side S R H' t s k := a.kp (Z := []) (Kp.same m) (by simp) (by simp) (by simp) (by simp) (by simp)
theorem MakAt.out {C x dk' : Addr} {Y : List Addr} {n : Nat} {st : PS} (a : MakAt w CM CS mx sx dk td sn kn side S R H t s k) (pl : Pl C x dk' Y S R n H st) : mx ∉ Y ∧ sx ∉ Y ∧ td ∉ Y ∧ sn ∉ Y ∧ kn ∉ Y := by
  obtain ⟨dx, e⟩ := a.ob
  obtain ⟨_, e2⟩ := a.dtd.is
  obtain ⟨_, e3⟩ := a.dsn.is
  exact ⟨pl.out e (notPK_ins side_ne), (a.so.out pl).1, pl.out e2 notPK_ext, pl.out e3 notPK_ext, (a.so.out pl).2⟩
theorem MakAt.play {C x dk' : Addr} {Y : List Addr} {n : Nat} {st : PS} (a : MakAt w CM CS mx sx dk td sn kn side S R H t s k) (pl : Pl C x dk' Y S R n H st) (m : Kp Y H H') : MakAt w CM CS mx sx dk td sn kn side S R H' t s k :=
  let ⟨h1, h2, h3, h4, h5⟩ := a.out pl
  a.kp m h1 h2 h3 h4 h5
theorem MakAt.ins_ne (a : MakAt w CM CS mx sx dk td sn kn side S R H t s k) : (mx ≠ td ∧ mx ≠ sn ∧ mx ≠ kn) ∧ (sx ≠ td ∧ sx ≠ sn ∧ sx ≠ kn) := by
  obtain ⟨dx, e⟩ := a.ob
  obtain ⟨dx2, e'⟩ := a.so.ob
  obtain ⟨_, e2⟩ := a.dtd.is
  obtain ⟨_, e3⟩ := a.dsn.is
  obtain ⟨_, e4⟩ := a.so.dn.is
  exact ⟨⟨ne_of e e2 (by intro h; cases h), ne_of e e3 (by intro h; cases h), ne_of e e4 (by intro h; cases h)⟩, ne_of e' e2 (by intro h; cases h), ne_of e' e3 (by intro h; cases h), ne_of e' e4 (by intro h; cases h)⟩
/-- seen[position] = True -/
theorem MakAt.see {p : Psn} {o : HO} (a : MakAt w CM CS mx sx dk td sn kn side S R H t s k) (d : DN w (upd H sn o) sn (putK (sdict s) (nkey p) (.bl true))) : MakAt w CM CS mx sx dk td sn kn side S R (upd H sn o) t (gput s p ()) k ∧ Kp [sn] H (upd H sn o) := by
  obtain ⟨dx, e⟩ := a.ob
  obtain ⟨φ, ek⟩ := a.dsn.is
  obtain ⟨⟨a1, a2, a3⟩, b1, b2, b3⟩ := a.ins_ne
  have m : Kp [sn] H (upd H sn o) := (Kp.refl [sn] H).chg ek not_imm_ext (.inl (by simp))
  refine ⟨⟨⟨dx, (upd_ne a2).trans e⟩, a.so.kp m (by simpa using b2) (by simpa using a.n3.symm), a.dtd.keep m.tk (fun o e => m.at e (by simpa using a.n2)), ?_, a.n1, a.n2, a.n3⟩, m⟩
  unfold sdict
  rw [gd_put (fun _ _ => nkey_inj)]
  exact d
/-- told[position] = card -/
theorem MakAt.tell {p : Psn} {c : Nat} {o : HO} (a : MakAt w CM CS mx sx dk td sn kn side S R H t s k) (d : DN w (upd H td o) td (putK (tdict t) (nkey p) (nv c))) : MakAt w CM CS mx sx dk td sn kn side S R (upd H td o) (gput t p c) s k ∧ Kp [td] H (upd H td o) := by
  obtain ⟨dx, e⟩ := a.ob
  obtain ⟨φ, ek⟩ := a.dtd.is
  obtain ⟨⟨a1, a2, a3⟩, b1, b2, b3⟩ := a.ins_ne
  have m : Kp [td] H (upd H td o) := (Kp.refl [td] H).chg ek not_imm_ext (.inl (by simp))
  refine ⟨⟨⟨dx, (upd_ne a1).trans e⟩, a.so.kp m (by simpa using b1) (by simpa using a.n1.symm), ?_, a.dsn.keep m.tk (fun o e => m.at e (by simpa using a.n2.symm)), a.n1, a.n2, a.n3⟩, m⟩
  unfold tdict
  rw [gd_put (fun _ _ => nkey_inj)]
  exact d
/-- the solver has learned -/
theorem MakAt.learn {k' : Known} (a : MakAt w CM CS mx sx dk td sn kn side S R H t s k) (m : Kp [kn] H H') (so : SolAt w CS sx dk kn S R H' k') : MakAt w CM CS mx sx dk td sn kn side S R H' t s k' := by
  obtain ⟨dx, e⟩ := a.ob
  obtain ⟨⟨a1, a2, a3⟩, b1, b2, b3⟩ := a.ins_ne
  exact ⟨⟨dx, m.at e (by simpa using a3)⟩, so, a.dtd.keep m.tk (fun o e => m.at e (by simpa using a.n1)), a.dsn.keep m.tk (fun o e => m.at e (by simpa using a.n3)), a.n1, a.n2, a.n3⟩
end
/-- what the paper tells is best -/
def TOk (R side : Nat) (t : Told) : Prop := (t.map (·.1)).Nodup ∧ ∀ e ∈ t, ∃ m, Wf (m + 1) e.1 ∧ mover e.1 % 2 = side ∧ e.2 = bestC R m e.1
def TLe (t t' : Told) : Prop := ∀ p c, tf t p = some c → tf t' p = some c
def SOk (R side n : Nat) (t : Told) (s : Seen) : Prop := ∀ e ∈ s, ∀ m, Wf m e.1 → m ≤ n → Cov R side (tf t) m e.1
theorem gput_nodup {α β : Type} [DecidableEq α] {l : List (α × β)} {a : α} {b : β} (h : (l.map (·.1)).Nodup) : ((gput l a b).map (·.1)).Nodup := by
  unfold gput
  split
  · rw [List.map_map]
    have e : l.map ((fun x => x.1) ∘ fun e => if e.1 = a then (e.1, b) else e) = l.map (·.1) := by
      refine List.map_congr_left fun e _ => ?_
      show (if e.1 = a then (e.1, b) else e).1 = e.1
      split <;> rfl
    rw [e]; exact h
  · rename_i q
    rw [List.map_append]
    refine List.nodup_append.mpr ⟨h, by simp, fun x hx y hy z => ?_⟩
    obtain ⟨e, he, e1⟩ := List.mem_map.mp hx
    have hy' : y = a := by simpa using hy
    exact q (List.any_eq_true.mpr ⟨e, he, decide_eq_true (by rw [e1, z, hy'])⟩)
theorem TLe.refl (t : Told) : TLe t t := fun _ _ h => h
theorem TLe.trans {a b c : Told} (h : TLe a b) (h' : TLe b c) : TLe a c := fun p x e => h' p x (h p x e)
theorem TOk.put {R side m : Nat} {t : Told} {p : Psn} (h : TOk R side t) (wf : Wf (m + 1) p) (hm : mover p % 2 = side) : TOk R side (gput t p (bestC R m p)) ∧ TLe t (gput t p (bestC R m p)) ∧ tf (gput t p (bestC R m p)) p = some (bestC R m p) := by
  refine ⟨⟨gput_nodup h.1, fun e he => ?_⟩, fun q c hq => ?_, ?_⟩
  · rcases mem_gput he with z | z
    · exact h.2 e z
    · rw [z]; exact ⟨m, wf, hm, rfl⟩
  · unfold tf at hq ⊢
    rw [glook_put]
    by_cases z : q = p
    · subst z
      rw [if_pos rfl]
      obtain ⟨m', w', _, e⟩ := h.2 _ (glook_mem hq)
      have : m' + 1 = m + 1 := w'.inj wf
      have : m' = m := by omega
      rw [← this]; exact congrArg some e.symm
    · rw [if_neg z]; exact hq
  · unfold tf; rw [glook_put, if_pos rfl]
def spMkInit (w : World) (CM CS : Addr) : Sp := fun vs H Q _ => ∃ (mx dx dk : Addr) (side S R : Nat), vs = [.ref mx, .ref dk, .int (side : Nat)] ∧ H mx = some (.ins CM dx []) ∧
  ∀ H' sx td sn kn, Kp [mx] H H' → H kn = none → H td = none → H sn = none → MakAt w CM CS mx sx dk td sn kn side S R H' [] [] [] → Q .non H'
def spVisit (w : World) (CM CS CP : Addr) (n : Nat) : Sp := fun vs H Q _ => ∃ (mx x dk dk' sx td sn kn : Addr) (Y : List Addr) (side S R : Nat) (st : PS) (t : Told) (s : Seen) (k : Known), vs = [.ref mx, .ref x] ∧ Pl CP x dk Y S R n H st ∧ MakAt w CM CS mx sx dk' td sn kn side S R H t s k ∧ side < 2 ∧
  TOk R side t ∧ SOk R side n t s ∧ k.length + Vn n ≤ 1000000 ∧ t.length + Bn n ≤ 1000000 ∧ s.length + Bn n ≤ 1000000 ∧
  ∀ H' Y' t' s' k', Mut (kn :: td :: sn :: Y) (kn :: td :: sn :: Y') H H' → Pl CP x dk Y' S R n H' st → MakAt w CM CS mx sx dk' td sn kn side S R H' t' s' k' → TOk R side t' → TLe t t' → SOk R side n t' s' → (∀ e ∈ s', e ∈ s ∨ ∃ m, m ≤ n ∧ Wf m e.1) → Cov R side (tf t') n st.p →
    k'.length ≤ k.length + Vn n → t'.length ≤ t.length + Bn n → s'.length ≤ s.length + Bn n → Q .non H'
section
variable {P : Program} {w : World} {K : PySem.W.Frag} {mg : Str → Option Value} {base : Heap} {CM CS : Addr}
theorem sc_PaperMaker_init : FnScope ["self", "deck", "side"] ["self", "deck", "side"] (defScope (inClass (top 34) 0)) := ⟨rfl, rfl, rfl, by decide +kernel, rfl, by decide +kernel, by decide +kernel⟩
theorem ok_PaperMaker_init (E : EntC K mg CM "PaperMaker" "PaperMaker.__init__" (inClass (top 34) 0)) (mc : MkC K CM) (N_Solver : ∀ base, Mc P w K mg base CS 1 "Solver" ["self", "deck"] (spSolInit w CS)) : Mc P w K mg base CM 3 "PaperMaker" ["self", "deck", "side"] (spMkInit w CM CS) := by
  refine mc_mk E sc_PaperMaker_init (fun _ _ _ _ _ _ us hl => match us, hl with | [_, _, _], _ => rfl) (fun vs H Q E h => ?_) (fun f cdv A outer s H vs Q E hr h => ?_)
  · obtain ⟨mx, dx, dk, side, S, R, rfl, _⟩ := h; rfl
  · obtain ⟨mx, dx, dk, side, S, R, rfl, hx, q⟩ := h
    refine ⟨_, (pss_cons (ps_fld (pv 0) (pv 2) rfl)
      (pss_cons (ps_fld (pv 0) (pe_nd (N_Solver _) hr rfl (pa_cons (pv 1) pa_nil)) rfl)
      (pss_cons (ps_fld (pv 0) pe_nnew rfl)
      (pss_one (ps_fld (pv 0) pe_nnew rfl))))), ?_⟩
    refine ⟨_, rfl, _, rfl, mx, CM, dx, _, rfl, hx, mc.cls, mc.n1, by show (0 : Nat) < 1000; decide, ?_⟩
    have k1 : Kp [mx] H (upd H mx (.ins CM dx (putF "side" (.int (side : Nat)) []))) := (Kp.refl [mx] H).chg hx not_imm_ins (.inl (by simp))
    have x1 : upd H mx (.ins CM dx (putF "side" (.int (side : Nat)) [])) mx = some (.ins CM dx [("side", .int (side : Nat))]) := upd_same
    generalize upd H mx (.ins CM dx (putF "side" (.int (side : Nat)) [])) = H1 at *
    refine ⟨_, rfl, fun sx dxs hsx hdxs hne => ?_⟩
    have s2 : Same H1 (upd (upd H1 dxs (.own sx)) sx (.ins CS dxs [])) := Fi.Same.upd_mine (Fi.Same.upd_new (Same.refl H1) hdxs) hsx
    have e2 : upd (upd H1 dxs (.own sx)) sx (.ins CS dxs []) sx = some (.ins CS dxs []) := upd_same
    generalize upd (upd H1 dxs (.own sx)) sx (.ins CS dxs []) = H2 at *
    refine ⟨sx, dxs, dk, S, R, rfl, e2, fun H3 kn k3 hkn so3 => ⟨rfl, ?_⟩⟩
    have nsx : sx ≠ mx := ne_none x1 hsx
    have s3 : Same H1 H3 := fun a u e => k3 a u (s2 a u e) (.inl (by
      rw [List.mem_singleton]
      rintro rfl
      rw [hsx] at e; cases e))
    have x3 := s3 _ _ x1
    have k13 := k1.trans (Kp.same s3 : Kp [] H1 H3) (fun z hz => nomatch hz)
    have nkn : kn ≠ mx := by
      obtain ⟨_, e⟩ := so3.dn.is
      exact ne_of e x3 (by intro h; cases h)
    have okn : H kn = none := k1.free (same_none s2 hkn) (by simpa using nkn)
    refine ⟨_, rfl, mx, CM, dx, _, rfl, x3, mc.cls, mc.n2, by show (1 : Nat) < 1000; decide, ?_⟩
    have j4 : Kp [mx] H3 (upd H3 mx (.ins CM dx (putF "solver" (.ref sx) [("side", .int (side : Nat))]))) := (Kp.refl [mx] H3).chg x3 not_imm_ins (.inl (by simp))
    have x4 : upd H3 mx (.ins CM dx (putF "solver" (.ref sx) [("side", .int (side : Nat))])) mx = some (.ins CM dx [("side", .int (side : Nat)), ("solver", .ref sx)]) := upd_same
    have so4 := so3.kp j4 (by simpa using nsx) (by simpa using nkn)
    have k4 := k13.trans j4 (fun z hz => .inl hz)
    generalize upd H3 mx (.ins CM dx (putF "solver" (.ref sx) [("side", .int (side : Nat))])) = H4 at *
    intro td o htd dtd
    have ntd : td ≠ mx := ne_none x4 htd
    have otd := k4.free htd (by simpa using ntd)
    obtain ⟨_, ek4⟩ := so4.dn.is
    have ntk : td ≠ kn := ne_none ek4 htd
    have s5 := Fi.Same.upd_new (Same.refl H4) htd (o := o)
    have x5 := s5 _ _ x4
    have so5 := so4.same s5
    have k5 := k4.new (o := o) htd
    generalize upd H4 td o = H5 at *
    refine ⟨_, rfl, mx, CM, dx, _, rfl, x5, mc.cls, mc.n3, by show (2 : Nat) < 1000; decide, ?_⟩
    have j6 : Kp [mx] H5 (upd H5 mx (.ins CM dx (putF "told" (.ref td) [("side", .int (side : Nat)), ("solver", .ref sx)]))) := (Kp.refl [mx] H5).chg x5 not_imm_ins (.inl (by simp))
    have x6 : upd H5 mx (.ins CM dx (putF "told" (.ref td) [("side", .int (side : Nat)), ("solver", .ref sx)])) mx = some (.ins CM dx [("side", .int (side : Nat)), ("solver", .ref sx), ("told", .ref td)]) := upd_same
    have so6 := so5.kp j6 (by simpa using nsx) (by simpa using nkn)
    have dtd6 := dtd.keep j6.tk (fun o e => j6.at e (by simpa using ntd))
    have k6 := k5.trans j6 (fun z hz => .inl hz)
    generalize upd H5 mx (.ins CM dx (putF "told" (.ref td) [("side", .int (side : Nat)), ("solver", .ref sx)])) = H6 at *
    intro sn o2 hsn dsn
    have nsn : sn ≠ mx := ne_none x6 hsn
    have osn := k6.free hsn (by simpa using nsn)
    obtain ⟨_, ek6⟩ := so6.dn.is
    obtain ⟨_, et6⟩ := dtd6.is
    have nsk : sn ≠ kn := ne_none ek6 hsn
    have nst : sn ≠ td := ne_none et6 hsn
    have s7 := Fi.Same.upd_new (Same.refl H6) hsn (o := o2)
    have x7 := s7 _ _ x6
    have so7 := so6.same s7
    have dtd7 := dtd6.keep (fun a xs e => s7 a _ e) (fun o e => s7 _ _ e)
    have k7 := k6.new (o := o2) hsn
    generalize upd H6 sn o2 = H7 at *
    refine ⟨_, rfl, mx, CM, dx, _, rfl, x7, mc.cls, mc.n4, by show (3 : Nat) < 1000; decide, ?_⟩
    have j8 : Kp [mx] H7 (upd H7 mx (.ins CM dx (putF "seen" (.ref sn) [("side", .int (side : Nat)), ("solver", .ref sx), ("told", .ref td)]))) := (Kp.refl [mx] H7).chg x7 not_imm_ins (.inl (by simp))
    exact q _ sx td sn kn (k7.trans j8 (fun z hz => .inl hz)) okn otd osn ⟨⟨dx, upd_same⟩, so7.kp j8 (by simpa using nsx) (by simpa using nkn), dtd7.keep j8.tk (fun o e => j8.at e (by simpa using ntd)), dsn.keep j8.tk (fun o e => j8.at e (by simpa using nsn)), ntk, nst.symm, nsk⟩
end
end Fi
/-! visit -/
namespace Fi
open PySem PySem.Spec PyProof.Rows L2
theorem cut1 (x : V) (xs : List V) : cutV (x :: xs) none (some 1) = [x] := by
  unfold cutV
  have e0 : HT.sIx (x :: xs).length 0 none = 0 := rfl
  have e1 : HT.sIx (x :: xs).length (x :: xs).length (some 1) = 1 := by
    have := HT.sIx_nat (x :: xs).length (x :: xs).length 1
    rw [show ((1 : Nat) : Int) = 1 from rfl] at this
    rw [this, List.length_cons]
    omega
  rw [e0, e1]
  rfl
section
variable {P : Program} {w : World} {K : PySem.W.Frag} {mg : Str → Option Value} {base : Heap} {CM CS CP : Addr} {n : Nat}
theorem sc_PaperMaker_visit : FnScope ["self", "play", "position", "cards", "card"] ["self", "play"] (defScope (inClass (top 34) 1)) := ⟨rfl, rfl, rfl, by decide +kernel, rfl, by decide +kernel, by decide +kernel⟩
theorem ok_PaperMaker_visit (E : EntM K CM "visit" "PaperMaker.visit" (inClass (top 34) 1)) (T : Txt K mg) (mc : MkC K CM) (M : PlayM P w K mg CP) (D_side_of : ∀ base, Df P w K mg base 1 "side_of" ["player"] spSide) (D_best_of : ∀ base, Df P w K mg base 1 "best_of" ["found"] spBest)
    (D_shares_after : ∀ n base, Df P w K mg base (6 + 2 * n) "shares_after" ["solver", "play"] (spSharesAfter w CS CP n)) {spV : Sp} (M_visit : ∀ base, Mt P w K mg base CM (6 + 2 * n) "visit" ["self", "play"] spV) (hV : ∀ m, n = m + 1 → spV = spVisit w CM CS CP m) :
    Mt P w K mg base CM (7 + 2 * n) "visit" ["self", "play"] (spVisit w CM CS CP n) := by
  rw [show 7 + 2 * n = (6 + 2 * n) + 1 by omega]
  refine mt_mk E sc_PaperMaker_visit (fun _ _ _ _ _ _ us hl => match us, hl with | [_, _], _ => rfl) (fun vs H Q E h => ?_) (fun f cdv A outer s H vs Q E hr h => ?_)
  · obtain ⟨mx, x, dk, dk', sx, td, sn, kn, Y, side, S, R, st, t, s, k, rfl, _⟩ := h; rfl
  · obtain ⟨mx, x, dk, dk', sx, td, sn, kn, Y, side, S, R, st, t, se, k, rfl, pl, mk, hsd, tok, sok, cap1, cap2, cap3, q⟩ := h
    refine ⟨_, (pss_cons (ps_set (i := 2) sc_PaperMaker_visit.nd rfl (Or.inl rfl) (pe_md0 (pv 1) M.pc.cls ((M.position _).mono (by omega)) hr))
      (pss_cons (ps_if (PW.pt (pw_or (pt_cmp (pc_nin hr.units (pv 2) (pe_fld (pv 0) rfl))) (pw_or1 (pt_val (pe_md0 (pv 1) M.pc.cls ((M.is_over _).mono (by omega)) hr))))) (pss_one ps_retN) pss_nil)
      (pss_cons (ps_nput hr.units (pe_fld (pv 0) rfl) (pv 2) pe_bl rfl)
      (pss_cons (ps_set (i := 3) sc_PaperMaker_visit.nd rfl (Or.inl rfl) (pe_md0 (pv 1) M.pc.cls ((M.legal _).mono (by omega)) hr))
      (pss_join (ps_if (pt_cmpR op_eq (pe_cd ((D_side_of _).mono (by omega)) hr rfl (pa_cons (pe_md0 (pv 1) M.pc.cls ((M.turn _).mono (by omega)) hr) pa_nil)) (pe_fld (pv 0) rfl) (nomark _)) (pss_cons (ps_set (i := 3) sc_PaperMaker_visit.nd rfl (Or.inl rfl) (pe_slice sl_list (pe_cd ((D_best_of _).mono (by omega)) hr rfl (pa_cons (pe_cd (D_shares_after n _) hr rfl (pa_cons (pe_fld (pv 0) rfl) (pa_cons (pv 1) pa_nil))) pa_nil)) po_none (po_some pe_int)))
      (pss_one (ps_nput hr.units (pe_fld (pv 0) rfl) (pv 2) (pe_ix ix_list (pv 3) pe_int (fun _ _ => rfl)) rfl))) pss_nil)
      (pss_one (ps_for PassesOwn.never rfl (pi_list (pv 3)) (pg_name (i := 4) sc_PaperMaker_visit.nd rfl (Or.inl rfl)) (pss_cons (ps_expr (pe_md (pv 1) M.pc.cls ((M.put _).mono (by omega)) hr (pa_cons (pv 4) pa_nil)))
      (pss_cons (ps_expr (pe_md (pv 0) mc.cls (M_visit _) hr (pa_cons (pv 1) pa_nil)))
      (pss_one (ps_expr (pe_md0 (pv 1) M.pc.cls ((M.take_back _).mono (by omega)) hr)))))))))))), ?_⟩
    have wf := pl.1.wf
    have r1 := pl.1.r1
    obtain ⟨_, _, _, _, _, _, hx⟩ := pl.ob
    obtain ⟨dxm, hm0⟩ := mk.ob
    refine ⟨_, rfl, x, _, _, rfl, hx, rfl, x, dk, Y, S, R, n, st, rfl, pl, fun b H1 s1 hb pb => ?_⟩
    have pl1 := pl.same s1
    have mk1 := mk.same s1
    have hm1 := s1 _ _ hm0
    refine ⟨_, rfl, _, rfl, mx, CM, _, _, _, rfl, hm1, mc.cls, mc.n4, rfl, sn, b, nkey st.p, _, rfl, pb.key, mk1.dsn, ?_⟩
    have ev : valV (sdict se) (nkey st.p) = (glook se st.p).map tv := gd_val (fun _ _ => nkey_inj) st.p se
    rw [ev]
    cases el : glook se st.p with
    | some v =>
      refine ⟨true, rfl, iteT (iteT ?_)⟩
      exact q H1 Y t se k (.same s1) pl1 mk1 tok (TLe.refl t) sok (fun e he => .inl he) (sok _ (glook_mem el) n wf (Nat.le_refl _)) (by omega) (by omega) (by omega)
    | none =>
    refine ⟨false, rfl, iteF ?_⟩
    refine ⟨_, rfl, x, _, _, rfl, s1 _ _ hx, rfl, x, dk, Y, S, R, n, st, rfl, pl1, fun H2 s2 => ?_⟩
    have s12 := s1.trans s2
    cases n with
    | zero =>
      refine ⟨true, rfl, iteT ?_⟩
      exact q H2 Y t se k (.same s12) (pl.same s12) (mk.same s12) tok (TLe.refl t) sok (fun e he => .inl he) trivial (by omega) (by omega) (by omega)
    | succ n =>
    have eV := hV n rfl
    subst eV
    refine ⟨false, rfl, iteF ?_⟩
    have pl2 := pl.same s12
    have mk2 := mk.same s12
    have hm2 := s12 _ _ hm0
    have pb2 := pb.mono (fun a xs e => s2 a _ e)
    have hlen := legal_le r1 wf
    have hB : Bn (n + 1) = 1 + ((n + 4) / 4) * Bn n := rfl
    have hVn : Vn (n + 1) = Bn (n + 1) + ((n + 4) / 4) * Vn n := rfl
    have h100 := pl.1.h100
    refine ⟨_, rfl, mx, CM, _, _, _, rfl, hm2, mc.cls, mc.n4, rfl, _, rfl, sn, b, nkey st.p, _, rfl, pb2.key, mk2.dsn, le_size (by unfold sdict; rw [gd_len]; omega), fun o d3 => ?_⟩
    obtain ⟨mk3, k3⟩ := mk2.see d3
    have pl3 := pl2.kp k3 (fun y hy => by
      rw [List.mem_singleton]
      rintro rfl
      exact (mk2.out pl2).2.2.2.1 hy)
    have m3 : Mut (kn :: td :: sn :: Y) (kn :: td :: sn :: Y) H (upd H2 sn o) := (Mut.same s12).trans ⟨k3.mono fun y hy => .inl (by rw [List.mem_singleton.mp hy]; simp), fun y hy => .inl hy⟩
    have pb3 := pb2.mono k3.tk
    generalize upd H2 sn o = H3 at *
    obtain ⟨_, _, _, _, _, _, hx3⟩ := pl3.ob
    refine ⟨_, rfl, x, _, _, rfl, hx3, rfl, x, dk, Y, S, R, n + 1, st, rfl, pl3, fun lp H4 s4 hlp elp => ?_⟩
    have pl4 := pl3.same s4
    have mk4 := mk3.same s4
    have pb4 := pb3.mono (fun a xs e => s4 a _ e)
    have m4 := m3.trans (Mut.same s4)
    have olp : H lp = none := by
      rcases m3.back hlp with z | z
      · exfalso
        obtain ⟨_, e1⟩ := mk3.so.dn.is
        obtain ⟨_, e2⟩ := mk3.dtd.is
        obtain ⟨_, e3⟩ := mk3.dsn.is
        rcases z with _ | ⟨_, _ | ⟨_, _ | ⟨_, z⟩⟩⟩
        · rw [hlp] at e1; cases e1
        · rw [hlp] at e2; cases e2
        · rw [hlp] at e3; cases e3
        · exact pl3.new hlp z
      · exact z
    -- where the ends of the `if` meet
    refine ⟨fun σ H' => ∃ ca L t2 k2, σ = [some (.ref mx), some (.ref x), some (.ref b), some (.ref ca), none] ∧ H ca = none ∧ H' ca = some (.lst (nts L)) ∧ Mut (kn :: td :: sn :: Y) (kn :: td :: sn :: Y) H H' ∧ Pl CP x dk Y S R (n + 1) H' st ∧
      MakAt w CM CS mx sx dk' td sn kn side S R H' t2 (gput se st.p ()) k2 ∧ TOk R side t2 ∧ TLe t t2 ∧ k2.length ≤ k.length + Bn (n + 1) ∧ t2.length ≤ t.length + 1 ∧ (∀ c ∈ L, c ∈ legal R st.p) ∧ L.length ≤ (n + 4) / 4 ∧
      ∀ t', TLe t2 t' → (∀ c ∈ L, Cov R side (tf t') n (nxt R st.p c)) → Cov R side (tf t') (n + 1) st.p, ?_, ?_⟩
    · obtain ⟨_, _, _, _, _, _, hx4⟩ := pl4.ob
      refine ⟨_, rfl, x, _, _, rfl, hx4, rfl, x, dk, Y, S, R, n, st, rfl, pl4, fun H5 s5 => ?_⟩
      have pl5 := pl4.same s5
      have mk5 := mk4.same s5
      have pb5 := pb4.mono (fun a xs e => s5 a _ e)
      have m5 := m4.trans (Mut.same s5)
      obtain ⟨dxm5, hm5⟩ := mk5.ob
      refine ⟨_, rfl, _, rfl, mx, CM, _, _, _, rfl, hm5, mc.cls, mc.n1, rfl, rfl, decide (mover st.p % 2 = side), ?_, ite2 (fun ht => ?_) fun ht => ?_⟩
      · exact congrArg V.bl (decide_eq_decide.mpr ⟨fun z => by injection z with z; omega, fun z => by rw [z]⟩)
      · have ht := of_decide_eq_true ht
        refine ⟨_, rfl, mx, CM, _, _, _, rfl, hm5, mc.cls, mc.n2, rfl, _, rfl, sx, x, dk, dk', kn, Y, S, R, st, k, rfl, pl5, mk5.so, by omega, fun H6 k6 d k06 so6 c6 hd0 hd => ?_⟩
        have mk6 := mk5.learn k06 so6
        have pl6 := pl5.kp k06 (fun y hy => by
          rw [List.mem_singleton]
          rintro rfl
          exact (mk5.out pl5).2.2.2.2 hy)
        have pb6 := pb5.mono k06.tk
        have m6 : Mut (kn :: td :: sn :: Y) (kn :: td :: sn :: Y) H H6 := m5.trans ⟨k06.mono fun y hy => .inl (by rw [List.mem_singleton.mp hy]; simp), fun y hy => .inl hy⟩
        refine ⟨d, legal R st.p, vmm R (n + 1) st.p, rfl, hd, legal_asc, by omega, fun bl H7 s7 hbl ebl => ?_⟩
        have hne := best_ne (R := R) wf
        obtain ⟨c0, rest, ec⟩ : ∃ c0 rest, (legal R st.p).filter (fun c => decide (vm R n st.p c = lmax ((legal R st.p).map (vm R n st.p)))) = c0 :: rest := by
          cases z : (legal R st.p).filter (fun c => decide (vm R n st.p c = lmax ((legal R st.p).map (vm R n st.p)))) with
          | nil => exact absurd z hne
          | cons a l => exact ⟨a, l, rfl⟩
        have e0 : bestC R n st.p = c0 := by unfold bestC; rw [ec]; rfl
        have ebl : H7 bl = some (.lst (nts (c0 :: rest))) := by rw [ebl]; exact congrArg (fun z => some (HO.lst (nts z))) ec
        refine ⟨_, rfl, bl, _, rfl, SqL.of ebl, fun ca hca => ?_⟩
        have eCut : cutV (nts (c0 :: rest)) none (some 1) = nts [c0] := cut1 _ _
        rw [eCut]
        have s8 := Fi.Same.upd_new (Same.refl H7) hca (o := .lst (nts [c0]))
        have eca : upd H7 ca (.lst (nts [c0])) ca = some (.lst (nts [c0])) := upd_same
        generalize upd H7 ca (.lst (nts [c0])) = H8 at *
        have s78 := s7.trans s8
        have mk8 := mk6.same s78
        have pl8 := pl6.same s78
        have pb8 := pb6.mono (fun a xs e => s78 a _ e)
        have m8 := m6.trans (Mut.same s78)
        obtain ⟨dxm8, hm8⟩ := mk8.ob
        refine ⟨_, rfl, ca, _, _, _, rfl, rfl, SqL.of eca, at_of (j := 0) rfl rfl, _, rfl, mx, CM, _, _, _, rfl, hm8, mc.cls, mc.n3, rfl, _, rfl, td, b, nkey st.p, _, rfl, pb8.key, mk8.dtd, le_size (by unfold tdict; rw [gd_len]; omega), fun o9 d9 => ?_⟩
        obtain ⟨mk9, k9⟩ := mk8.tell d9
        have pl9 := pl8.kp k9 (fun y hy => by
          rw [List.mem_singleton]
          rintro rfl
          exact (mk8.out pl8).2.2.1 hy)
        have m9 : Mut (kn :: td :: sn :: Y) (kn :: td :: sn :: Y) H (upd H8 td o9) := m8.trans ⟨k9.mono fun y hy => .inl (by rw [List.mem_singleton.mp hy]; simp), fun y hy => .inl hy⟩
        obtain ⟨_, et8⟩ := mk8.dtd.is
        have nca : ca ≠ td := by
          intro z
          rw [z, et8] at eca; cases eca
        have oca : H ca = none := by
          rcases m6.back (same_none s7 hca) with z | z
          · exfalso
            obtain ⟨_, e1⟩ := mk6.so.dn.is
            obtain ⟨_, e2⟩ := mk6.dtd.is
            obtain ⟨_, e3⟩ := mk6.dsn.is
            have hca6 := same_none s7 hca
            rcases z with _ | ⟨_, _ | ⟨_, _ | ⟨_, z⟩⟩⟩
            · rw [hca6] at e1; cases e1
            · rw [hca6] at e2; cases e2
            · rw [hca6] at e3; cases e3
            · exact pl6.new hca6 z
          · exact z
        have hbm := (bestC_mem (R := R) wf).1
        have tp := tok.put wf ht
        rw [e0] at hbm tp
        refine ⟨ca, [c0], gput t st.p c0, k6, rfl, oca, (upd_ne nca).trans eca, m9, pl9, mk9, tp.1, tp.2.1, c6, gput_len _ _ _, fun c hc => by rw [List.mem_singleton.mp hc]; exact hbm, by show 1 ≤ (n + 4) / 4; omega, fun t' hle hcov => ?_⟩
        unfold Cov
        rw [if_pos ht, e0]
        exact ⟨hle _ _ tp.2.2, hcov c0 (List.mem_singleton.mpr rfl)⟩
      · have ht : ¬ mover st.p % 2 = side := fun z => ht (decide_eq_true z)
        refine ⟨lp, legal R st.p, t, k, rfl, olp, s5 _ _ elp, m5, pl5, mk5, tok, TLe.refl t, by omega, by omega, fun c h => h, hlen, fun t' hle hcov => ?_⟩
        unfold Cov
        rw [if_neg ht]
        exact hcov
    · rintro σ H5 ⟨ca, L, t2, k2, rfl, hca, eca, m5, pl5, mk5, tok2, tle2, ck2, ct2, hL, hLl, hcov⟩
      have nca : ca ∉ kn :: td :: sn :: Y := by
        obtain ⟨_, e1⟩ := mk.so.dn.is
        obtain ⟨_, e2⟩ := mk.dtd.is
        obtain ⟨_, e3⟩ := mk.dsn.is
        rintro (_ | ⟨_, _ | ⟨_, _ | ⟨_, z⟩⟩⟩)
        · rw [hca] at e1; cases e1
        · rw [hca] at e2; cases e2
        · rw [hca] at e3; cases e3
        · exact pl.new hca z
      have hs1 := gput_len se st.p ()
      refine ⟨_, rfl, ca, rfl, ⟨_, SqL.of eca⟩, ?_⟩
      refine for_list (xs := nts L) (fun i σ H' => ∃ Yi ti si ki x4, Mut (kn :: td :: sn :: Y) (kn :: td :: sn :: Yi) H5 H' ∧ Pl CP x dk Yi S R (n + 1) H' st ∧ MakAt w CM CS mx sx dk' td sn kn side S R H' ti si ki ∧ TOk R side ti ∧ TLe t2 ti ∧ SOk R side n ti si ∧
        (∀ e ∈ si, e ∈ gput se st.p () ∨ ∃ m, m ≤ n ∧ Wf m e.1) ∧ (∀ c ∈ L.take i, Cov R side (tf ti) n (nxt R st.p c)) ∧ ki.length ≤ k2.length + i * Vn n ∧ ti.length ≤ t2.length + i * Bn n ∧ si.length ≤ (gput se st.p ()).length + i * Bn n ∧
        σ = [some (.ref mx), some (.ref x), some (.ref b), some (.ref ca), x4]) ⟨Y, t2, _, k2, none, .refl _ _, pl5, mk5, tok2, TLe.refl t2, ?_, fun e he => .inl he, fun c hc => (by simp at hc), by omega, by omega, by omega, rfl⟩ ?_ ?_ ?_
      · intro e he m we hm
        rcases mem_gput he with z | z
        · exact (sok e z m we (by omega)).mono tle2
        · rw [z] at we
          have := we.inj wf
          omega
      · rintro i σ H' hi ⟨Yi, ti, si, ki, x4, mi, pli, mki, toki, tlei, soki, hsi, hci, c1, c2, c3, rfl⟩
        exact SqL.of (mi.1.at eca nca)
      · rintro i v σ H' hi ⟨Yi, ti, si, ki, x4, mi, pli, mki, toki, tlei, soki, hsi, hcvi, c1, c2, c3, rfl⟩
        obtain ⟨c, hci, rfl⟩ := nts_inv hi
        have hmem : c ∈ legal R st.p := hL c (List.mem_of_getElem? hci)
        have hil : i < L.length := (List.getElem?_eq_some_iff.mp hci).1
        have hmul : (i + 1) * Bn n ≤ ((n + 4) / 4) * Bn n := Nat.mul_le_mul_right _ (by omega)
        have hmul2 : (i + 1) * Bn n = i * Bn n + Bn n := Nat.succ_mul _ _
        have hmul3 : (i + 1) * Vn n ≤ ((n + 4) / 4) * Vn n := Nat.mul_le_mul_right _ (by omega)
        have hmul4 : (i + 1) * Vn n = i * Vn n + Vn n := Nat.succ_mul _ _
        obtain ⟨_, _, _, _, _, _, hxi⟩ := pli.ob
        refine ⟨_, rfl, x, _, _, rfl, hxi, rfl, _, rfl, x, dk, Yi, S, R, n, st, c, rfl, pli, hmem, fun Ha Ya a b' ma pla un => ?_⟩
        have mka := mki.play pli ma.1
        obtain ⟨dxa, hma⟩ := mka.ob
        refine ⟨_, rfl, mx, _, _, rfl, hma, rfl, _, rfl, mx, x, dk, dk', sx, td, sn, kn, Ya, side, S, R, putS R st c a b', ti, si, ki, rfl, pla, mka, hsd, toki, soki, by omega, by omega, by omega, fun Hb Yb tb sb kb mb plb mkb tokb tleb sokb hsb hcvb cb1 cb2 cb3 => ?_⟩
        obtain ⟨_, _, _, _, _, _, hxb⟩ := plb.ob
        refine ⟨_, rfl, x, _, _, rfl, hxb, rfl, x, dk, Yb, S, R, n, st, c, a, b', rfl, plb, pl.1, hmem, un.mono mb.1.tk, fun Hd Yd md pld => ?_⟩
        refine ⟨Yd, tb, sb, kb, _, mi.trans ((ma.more (Z := [kn, td, sn])).trans (mb.trans (md.more (Z := [kn, td, sn])))), pld, mkb.play plb md.1, tokb, tlei.trans tleb, sokb, fun e he => ?_, fun c' hc' => ?_, by omega, by omega, by omega, rfl⟩
        · rcases hsb e he with z | z
          · exact hsi e z
          · exact .inr z
        · rw [take_snoc hci] at hc'
          rcases List.mem_append.mp hc' with z | z
          · exact (hcvi c' z).mono tleb
          · rw [List.mem_singleton.mp z]; exact hcvb
      · rintro σ H' ⟨Yl, tl, sl, kl, x4, ml, pll, mkl, tokl, tlel, sokl, hsl, hcvl, c1, c2, c3, rfl⟩
        rw [nts_len] at c1 c2 c3 hcvl
        rw [List.take_length] at hcvl
        have hmul : L.length * Bn n ≤ ((n + 4) / 4) * Bn n := Nat.mul_le_mul_right _ hLl
        have hmul2 : L.length * Vn n ≤ ((n + 4) / 4) * Vn n := Nat.mul_le_mul_right _ hLl
        have hC := hcov tl tlel hcvl
        refine q H' Yl tl sl kl (m5.trans ml) pll mkl tokl (tle2.trans tlel) (fun e he m we hm => ?_) (fun e he => ?_) hC (by omega) (by omega) (by omega)
        · rcases hsl e he with z | ⟨m', hm', w'⟩
          · rcases mem_gput z with z | z
            · exact (sok e z m we hm).mono (tle2.trans tlel)
            · rw [z] at we ⊢
              have := we.inj wf
              subst this
              exact hC
          · have := we.inj w'
            exact sokl e he m we (by omega)
        · rcases hsl e he with z | ⟨m', hm', w'⟩
          · rcases mem_gput z with z | z
            · exact .inl z
            · exact .inr ⟨n + 1, Nat.le_refl _, by rw [z]; exact wf⟩
          · exact .inr ⟨m', by omega, w'⟩
end
end Fi
/-! paper_for -/
namespace Fi
open PySem PySem.Spec PyProof.Rows L2 PySem.W
abbrev leP : (Psn × Nat) → (Psn × Nat) → Bool := dataLe false (encP kp vp)
theorem leP_total : TotalLe leP := sortLe_total _ _ _
theorem sort_idem (l : Told) : (l.mergeSort leP).mergeSort leP = l.mergeSort leP := List.mergeSort_of_pairwise (sort_pairwise leP_total l)
theorem alike_nms : ∀ a b : List Nat, alikeAll (NestedKey.datas (nms a)) (NestedKey.datas (nms b)) = true
  | [], b => by unfold nms NestedKey.datas; simp [alikeAll]
  | x :: a, [] => by unfold nms; simp [NestedKey.datas, alikeAll]
  | x :: a, y :: b => by
    show alikeAll (NestedKey.data (.num (x : Nat)) :: NestedKey.datas (nms a)) (NestedKey.data (.num (y : Nat)) :: NestedKey.datas (nms b)) = true
    rw [alikeAll, alike_nms a b]
    rfl
theorem alike_nkey (p q : Psn) : alike (nkey p).data (nkey q).data = true := by
  unfold nkey
  simp only [NestedKey.data, NestedKey.datas, alike, alikeAll, alike_nms]
  rfl
theorem depth_nms : ∀ a : List Nat, PyData.depthAll (NestedKey.datas (nms a)) ≤ 1
  | [] => by unfold nms; simp [NestedKey.datas, PyData.depthAll]
  | x :: a => by
    show PyData.depthAll (NestedKey.data (.num (x : Nat)) :: NestedKey.datas (nms a)) ≤ 1
    have := depth_nms a
    simp only [PyData.depthAll, NestedKey.data, PyData.depth] at this ⊢
    omega
theorem depth_nkey (p : Psn) : (nkey p).data.depth ≤ 8 := by
  unfold nkey
  have h1 := depth_nms p.hs
  have h2 := depth_nms p.tk
  simp only [NestedKey.data, NestedKey.datas, PyData.depth, PyData.depthAll]
  omega
theorem kalike (t : Told) : KAlike kp t := ⟨fun b _ b' _ => alike_nkey _ _, fun b _ => depth_nkey _⟩
theorem TOk.sort {R side : Nat} {t : Told} (h : TOk R side t) : TOk R side (t.mergeSort leP) ∧ TLe t (t.mergeSort leP) := by
  have hp := List.mergeSort_perm t leP
  have h2 : TOk R side (t.mergeSort leP) := ⟨(hp.map _).nodup_iff.mpr h.1, fun e he => h.2 e (hp.mem_iff.mp he)⟩
  refine ⟨h2, fun p c e => ?_⟩
  have m := glook_mem e
  obtain ⟨c', e'⟩ := glook_in (hp.mem_iff.mpr m)
  obtain ⟨m1, w1, _, x1⟩ := h.2 _ m
  obtain ⟨m2, w2, _, x2⟩ := h2.2 _ (glook_mem e')
  have : m1 + 1 = m2 + 1 := w1.inj w2
  have em : m1 = m2 := by omega
  subst em
  have : c = c' := by rw [show c = _ from x1, show c' = _ from x2]
  rw [this]; exact e'
def spPaperFor (CG : Addr) : Sp := fun vs H Q _ => ∃ (x dk : Addr) (Y : List Addr) (side S R n : Nat) (s : PS), vs = [.ref x, .int (side : Nat)] ∧ Pl CG x dk Y S R n H s ∧ n ≤ 12 ∧ side < 2 ∧
  ∀ (H' : Hp) (pp : Addr) (t : Told), Same H H' → PapAt H' pp (t.mergeSort leP) → TOk R side (t.mergeSort leP) → (t.mergeSort leP).length < sizeLine → Cov R side (tf (t.mergeSort leP)) n s.p → Q (.ref pp) H'
section
variable {P : Program} {w : World} {K : PySem.W.Frag} {mg : Str → Option Value} {base : Heap} {CM CS CP CG : Addr}
theorem maker_all (E : EntM K CM "visit" "PaperMaker.visit" (inClass (top 34) 1)) (T : Txt K mg) (mc : MkC K CM) (M : PlayM P w K mg CP) (D_side_of : ∀ base, Df P w K mg base 1 "side_of" ["player"] spSide) (D_best_of : ∀ base, Df P w K mg base 1 "best_of" ["found"] spBest)
    (D_shares_after : ∀ n base, Df P w K mg base (6 + 2 * n) "shares_after" ["solver", "play"] (spSharesAfter w CS CP n)) : ∀ n, (∀ base, Mt P w K mg base CM (7 + 2 * n) "visit" ["self", "play"] (spVisit w CM CS CP n))
  | 0 => by
    have never : ∀ base, Mt P w K mg base CM 1 "visit" ["self", "play"] (fun _ _ _ _ => False) := fun base =>
      mt_mk (k := 0) E sc_PaperMaker_visit (fun _ _ _ _ _ _ us hl => match us, hl with | [_, _], _ => rfl) (fun _ _ _ _ h => h.elim) (fun _ _ _ _ _ _ _ _ _ _ h => h.elim)
    exact fun base => ok_PaperMaker_visit (n := 0) E T mc M D_side_of D_best_of D_shares_after (fun base => (never base).mono (by decide)) (fun m h => by omega)
  | n + 1 => by
    have ih := maker_all E T mc M D_side_of D_best_of D_shares_after n
    exact fun base => ok_PaperMaker_visit (n := n + 1) (spV := spVisit w CM CS CP n) E T mc M D_side_of D_best_of D_shares_after (fun base => (ih base).mono (by omega)) (fun m h => by
      have : m = n := by omega
      rw [this])
theorem sc_paper_for : FnScope ["play", "side", "maker"] ["play", "side"] (defScope (top 35)) := ⟨rfl, rfl, rfl, by decide +kernel, rfl, by decide +kernel, by decide +kernel⟩
theorem ok_paper_for (E : EntF K mg "paper_for" (top 35)) (T : Txt K mg) (mc : MkC K CM) (G : PlayM P w K mg CG) (D_play_at : ∀ base, Df P w K mg base 4 "play_at" ["deck", "position"] (spPlayAt CP)) (N_PaperMaker : ∀ base, Mc P w K mg base CM 3 "PaperMaker" ["self", "deck", "side"] (spMkInit w CM CS))
    (M_visit : ∀ n base, Mt P w K mg base CM (7 + 2 * n) "visit" ["self", "play"] (spVisit w CM CS CP n)) : Df P w K mg base 35 "paper_for" ["play", "side"] (spPaperFor CG) := by
  refine df_mk E sc_paper_for (fun _ _ _ _ _ _ us hl => match us, hl with | [_, _], _ => rfl) (fun vs H Q E h => ?_) (fun f cdv A outer s H vs Q E hr h => ?_)
  · obtain ⟨x, dk, Y, side, S, R, n, s, rfl, _⟩ := h; rfl
  · obtain ⟨x, dk, Y, side, S, R, n, st, rfl, pl, n12, hsd, q⟩ := h
    refine ⟨_, (pss_cons (ps_set (i := 2) sc_paper_for.nd rfl (Or.inl rfl) (pe_nd ((N_PaperMaker _).mono (by decide : 3 ≤ 33)) hr rfl (pa_cons (pe_md0 (pv 0) G.pc.cls ((G.deck _).mono (by decide)) hr) (pa_cons (pv 1) pa_nil))))
      (pss_cons (ps_expr (pe_md (pv 2) mc.cls ((M_visit n _).mono (by omega)) hr (pa_cons (pe_cd ((D_play_at _).mono (by decide)) hr rfl (pa_cons (pe_md0 (pv 0) G.pc.cls ((G.deck _).mono (by decide)) hr) (pa_cons (pe_md0 (pv 0) G.pc.cls ((G.position _).mono (by decide)) hr) pa_nil))) pa_nil)))
      (pss_one (ps_ret (pe_callTy call_tupF rfl T.f_tuple (by decide +kernel) (pa_cons (pe_callB (cr_sortI rfl hr.units (kf := kp) (vf := vp)) rfl T.f_sorted (by decide +kernel) (pa_cons (pe_nitems (pe_fld (pv 2) rfl)) pa_nil)) pa_nil)))))), ?_⟩
    obtain ⟨_, _, _, _, _, _, hx⟩ := pl.ob
    refine ⟨_, rfl, x, _, _, rfl, hx, rfl, x, dk, Y, S, R, n, st, rfl, pl, ?_⟩
    refine ⟨_, rfl, fun mx dxm hmx hdx hne => ?_⟩
    have s1 : Same H (upd (upd H dxm (.own mx)) mx (.ins CM dxm [])) := Fi.Same.upd_mine (Fi.Same.upd_new (Same.refl H) hdx) hmx
    have e1 : upd (upd H dxm (.own mx)) mx (.ins CM dxm []) mx = some (.ins CM dxm []) := upd_same
    generalize upd (upd H dxm (.own mx)) mx (.ins CM dxm []) = H1 at *
    refine ⟨mx, dxm, dk, side, S, R, rfl, e1, fun H2 sx td sn kn k2 okn otd osn mk => ⟨rfl, ?_⟩⟩
    have s2 : Same H H2 := fun a u e => k2 a u (s1 a u e) (.inl (by
      rw [List.mem_singleton]
      rintro rfl
      rw [hmx] at e; cases e))
    have pl2 := pl.same s2
    obtain ⟨_, _, _, _, _, _, hx2⟩ := pl2.ob
    obtain ⟨dxm2, hm2⟩ := mk.ob
    refine ⟨_, rfl, mx, _, _, rfl, hm2, rfl, ?_⟩
    refine ⟨_, rfl, x, _, _, rfl, hx2, rfl, x, dk, Y, S, R, n, st, rfl, pl2, ?_⟩
    refine ⟨_, rfl, x, _, _, rfl, hx2, rfl, x, dk, Y, S, R, n, st, rfl, pl2, fun b H3 s3 hb pb => ?_⟩
    refine ⟨dk, b, S, R, n, st.p, rfl, (pl2.same s3).2.1, pb, pl.1.own, fun H4 o Yo s4 no plo => ?_⟩
    have s24 := s3.trans s4
    have hB : Bn n ≤ 7735 := by rw [← Bn_12]; exact Bn_mono n12
    have hV : Vn n ≤ 100000 := Nat.le_trans (Vn_mono n12) Vn_12
    refine ⟨mx, o, dk, dk, sx, td, sn, kn, Yo, side, S, R, _, [], [], [], rfl, plo, mk.same s24, hsd, ⟨List.nodup_nil, (fun e he => nomatch he)⟩, (fun e he => nomatch he), by show 0 + Vn n ≤ 1000000; omega, by show 0 + Bn n ≤ 1000000; omega, by show 0 + Bn n ≤ 1000000; omega, fun H5 Y5 t s5 k5 m5 pl5 mk5 tok5 _ _ _ hcov _ ct5 _ => ?_⟩
    have ss5 : Same H H5 := fun a u e => m5.1 a u (s24 a u (s2 a u e)) (.inl (by
      rintro (_ | ⟨_, _ | ⟨_, _ | ⟨_, z⟩⟩⟩)
      · have := s1 _ _ e; rw [okn] at this; cases this
      · have := s1 _ _ e; rw [otd] at this; cases this
      · have := s1 _ _ e; rw [osn] at this; cases this
      · have := no a z; rw [s3 _ _ (s2 _ _ e)] at this; cases this))
    obtain ⟨dxm5, hm5⟩ := mk5.ob
    refine ⟨_, rfl, mx, CM, _, _, _, rfl, hm5, mc.cls, mc.n3, rfl, td, _, rfl, mk5.dtd, fun p hp => ?_⟩
    have s6 := Fi.Same.upd_new (Same.refl H5) hp (o := DX.itemsO p td)
    have ep : upd H5 p (DX.itemsO p td) p = some (DX.itemsO p td) := upd_same
    generalize upd H5 p (DX.itemsO p td) = H6 at *
    refine ⟨p, td, t, rfl, ep, mk5.dtd.keep (fun a xs e => s6 a _ e) (fun o e => s6 _ _ e), kalike t, fun l ps H7 s7 hl el pp7 => ?_⟩
    refine ⟨l, _, rfl, SqL.of el, fun pp ob hpp pt => ?_⟩
    have s8 := Fi.Same.upd_new (Same.refl H7) hpp (o := .frz ob (.tup (ps.map V.ref)))
    have tk := tok5.sort
    refine q _ pp t (ss5.trans (s6.trans (Same.trans s7 s8))) ⟨ob, ps, upd_same, pt, pp7.mono (fun a xs e => s8 a _ e)⟩ tk.1 ?_ (hcov.mono tk.2)
    rw [(List.mergeSort_perm t leP).length_eq]
    have : t.length ≤ 0 + Bn n := ct5
    exact le_size (by omega)
end
end Fi
/-! the law's own helpers: the script's numbers, the deck, the deal -/
namespace Fi
open PySem PySem.Spec PyProof.Rows L2
def ScrAt (K : PySem.W.Frag) (H : Hp) (a : Addr) (ns : List Int) : Prop := SqL K H a (ns.map V.int) ∧ ns.length ≤ 63
theorem ScrAt.same {K : PySem.W.Frag} {H H' : Hp} {a : Addr} {ns : List Int} (h : ScrAt K H a ns) (s : Same H H') : ScrAt K H' a ns := by
  refine ⟨?_, h.2⟩
  rcases h.1 with q | q
  · rcases q with e | ⟨ob, e⟩
    · exact .inl (.inl (s _ _ e))
    · exact .inl (.inr ⟨ob, s _ _ e⟩)
  · exact .inr q
theorem ints_at {ns : List Int} {i : Nat} (h : i < ns.length) : (ns.map V.int)[i]? = some (V.int (ns.getD i 0)) := by
  rw [List.getElem?_map, List.getD_eq_getElem?_getD, List.getElem?_eq_getElem h]; rfl
theorem mod_nat (c : Int) {m : Int} (h : 0 < m) : ∃ n : Nat, c % m = (n : Nat) := ⟨(c % m).toNat, (Int.toNat_of_nonneg (Int.emod_nonneg _ (by omega))).symm⟩
def spCell (K : PySem.W.Frag) : Sp := fun vs H Q _ => ∃ (a : Addr) (ns : List Int) (k : Nat), vs = [.ref a, .int (k : Nat)] ∧ ScrAt K H a ns ∧ ∀ i : Int, Q (.int i) H
def spNumbers (K : PySem.W.Frag) : Sp := fun vs H Q _ => ∃ (a : Addr) (ns : List Int) (f m : Nat), vs = [.ref a, .int (f : Nat), .int (m : Nat)] ∧ ScrAt K H a ns ∧ f ≤ 10 ∧ m ≤ 1000 ∧ ∀ l : List Nat, l.length ≤ m → NewL H (nts l) Q
def spDeckL : Sp := fun vs H Q _ => ∃ (d sz : Nat), vs = [.int (d : Nat), .int (sz : Nat)] ∧ 1 ≤ sz ∧ sz ≤ 3 ∧ ∀ S R : Nat, 1 ≤ S → S ≤ 3 → 1 ≤ R → R ≤ 13 → 4 * sz ≤ S * R → S * R ≤ 16 → NewT H [.int (S : Nat), .int (R : Nat)] Q
section
variable {P : Program} {w : World} {K : PySem.W.Frag} {mg : Str → Option Value} {base : Heap}
theorem sc_law_cell : FnScope ["_law_script", "_law_k"] ["_law_script", "_law_k"] (defScope (top 37)) := ⟨rfl, rfl, rfl, by decide +kernel, rfl, by decide +kernel, by decide +kernel⟩
theorem ok_law_cell (E : EntF K mg "_law_cell" (top 37)) (T : Txt K mg) : Df P w K mg base 1 "_law_cell" ["_law_script", "_law_k"] (spCell K) := by
  refine df_mk E sc_law_cell (fun _ _ _ _ _ _ us hl => match us, hl with | [_, _], _ => rfl) (fun vs H Q E h => ?_) (fun f cdv A outer s H vs Q E hr h => ?_)
  · obtain ⟨a, ns, k, rfl, _⟩ := h; rfl
  · obtain ⟨a, ns, k, rfl, ha, q⟩ := h
    refine ⟨_, (pss_cons (ps_if (pt_cmpR op_lt (pv 1) (pe_callB call_len_seq rfl T.f_len PySem.boot_len (pa_cons (pv 0) pa_nil)) (nomark _)) (pss_one (ps_ret (pe_ix ix_list (pv 0) (pv 1) (fun _ _ => rfl)))) pss_nil)
      (pss_one (ps_ret pe_int))), ?_⟩
    refine ⟨_, rfl, _, rfl, a, _, rfl, .inl ha.1, _, _, rfl, rfl, decide (k < ns.length), ?_, ite2 (fun h => ?_) fun h => ?_⟩
    · rw [List.length_map]
      exact congrArg V.bl (decide_eq_decide.mpr (by omega))
    · have h := of_decide_eq_true h
      exact ⟨_, rfl, _, rfl, a, _, _, _, rfl, rfl, ha.1, at_of rfl (ints_at h), q _⟩
    · exact q 0
theorem sc_law_numbers : FnScope ["_law_script", "_law_first", "_law_most", "_law_found", "_law_at", "_law_cell_here", "_law_k", "_law_mixed"] ["_law_script", "_law_first", "_law_most"] (defScope (top 38)) := ⟨rfl, rfl, rfl, by decide +kernel, rfl, by decide +kernel, by decide +kernel⟩
theorem ok_law_numbers (E : EntF K mg "_law_numbers" (top 38)) (T : Txt K mg) : Df P w K mg base 1 "_law_numbers" ["_law_script", "_law_first", "_law_most"] (spNumbers K) := by
  refine df_mk E sc_law_numbers (fun _ _ _ _ _ _ us hl => match us, hl with | [_, _, _], _ => rfl) (fun vs H Q E h => ?_) (fun f cdv A outer s H vs Q E hr h => ?_)
  · obtain ⟨a, ns, f, m, rfl, _⟩ := h; rfl
  · obtain ⟨a, ns, fi, m, rfl, ha, f10, m1000, q⟩ := h
    refine ⟨_, (pss_cons (ps_set (i := 3) sc_law_numbers.nd rfl (Or.inl rfl) (pe_lst pa_nil))
      (pss_cons (ps_for PassesOwn.never rfl (pi_range2 rfl T.f_range (pa_cons (pv 1) (pa_cons (pe_callB call_len_seq rfl T.f_len PySem.boot_len (pa_cons (pv 0) pa_nil)) pa_nil))) (pg_name (i := 4) sc_law_numbers.nd rfl (Or.inl rfl)) (pss_cons (ps_set (i := 5) sc_law_numbers.nd rfl (Or.inl rfl) (pe_callB call_abs rfl T.f_abs (by decide +kernel) (pa_cons (pe_ix ix_list (pv 0) (pv 4) (fun _ _ => rfl)) pa_nil)))
      (pss_one (ps_if (pt_cmpR op_ge (pv 5) pe_int (nomark _)) (pss_one (ps_for PassesOwn.never rfl (pi_range1 rfl T.f_range (pa_cons pe_int pa_nil)) (pg_name (i := 6) sc_law_numbers.nd rfl (Or.inl rfl)) (pss_one (ps_if (PW.pt (pw_and (pt_cmpR op_gt (pv 5) pe_int (nomark _)) (pw_and1 (pt_cmpR op_lt (pe_callB call_len_seq rfl T.f_len PySem.boot_len (pa_cons (pv 3) pa_nil)) (pv 2) (nomark _))))) (pss_cons (ps_expr (pe_bm PySem.F.plainAttrs_list PySem.F.slot_list_append PySem.F.type_list_append mt_append (pv 3) (pa_cons (pe_op op_mod (pe_callTy call_int1 rfl T.f_int (by decide +kernel) (pa_cons (pv 5) pa_nil)) pe_int) pa_nil)))
      (pss_one (ps_set (i := 5) sc_law_numbers.nd rfl (Or.inl rfl) (pe_op op_fdiv (pv 5) pe_int)))) pss_nil)))) (pss_one (ps_if (pt_cmpR op_lt (pe_callB call_len_seq rfl T.f_len PySem.boot_len (pa_cons (pv 3) pa_nil)) (pv 2) (nomark _)) (pss_cons (ps_set (i := 7) sc_law_numbers.nd rfl (Or.inl rfl) (pe_op op_mod (pe_callTy call_int1 rfl T.f_int (by decide +kernel) (pa_cons (pe_op op_add (pe_op op_add (pe_op op_mul (pv 5) pe_int) (pe_op op_mul (pv 4) pe_int)) pe_int) pa_nil)) pe_int))
      (pss_cons (ps_set (i := 7) sc_law_numbers.nd rfl (Or.inl rfl) (pe_op op_mod (pe_callTy call_int1 rfl T.f_int (by decide +kernel) (pa_cons (pe_op op_add (pe_op op_mul (pv 7) pe_int) (pe_op op_fdiv (pv 7) pe_int)) pa_nil)) pe_int))
      (pss_one (ps_expr (pe_bm PySem.F.plainAttrs_list PySem.F.slot_list_append PySem.F.type_list_append mt_append (pv 3) (pa_cons (pe_op op_mod (pe_callTy call_int1 rfl T.f_int (by decide +kernel) (pa_cons (pv 7) pa_nil)) pe_int) pa_nil)))))) pss_nil))))))
      (pss_one (ps_ret (pv 3))))), ?_⟩
    refine ⟨by show (0 : Nat) ≤ sizeLine; decide, fun D hD => ?_⟩
    have s0 := Fi.Same.upd_new (Same.refl H) hD (o := .lst [])
    have e0 : upd H D (.lst []) D = some (.lst (nts [])) := upd_same
    generalize upd H D (.lst []) = H0 at *
    have h63 := ha.2
    refine ⟨_, rfl, _, rfl, a, _, rfl, .inl (ha.same s0).1, _, _, rfl, ⟨?_, ?_, ?_, ?_⟩, ?_⟩
    · omega
    · omega
    · rw [List.length_map]; omega
    · rw [List.length_map]; omega
    refine for_range (fun i σ H' => ∃ l x4 x5 x6 x7, Same H H' ∧ H' D = some (.lst (nts l)) ∧ l.length ≤ m ∧ σ = [some (.ref a), some (.int (fi : Nat)), some (.int (m : Nat)), some (.ref D), x4, x5, x6, x7]) ⟨[], _, _, _, _, s0, e0, Nat.zero_le _, rfl⟩ ?_ ?_
    · rintro i σ H' hi ⟨l, x4, x5, x6, x7, sm, el, hl, rfl⟩
      rw [List.length_map] at hi
      have hlt : fi + i < ns.length := by omega
      have hat : (ns.map V.int)[fi + i]? = some (V.int (ns.getD (fi + i) 0)) := ints_at hlt
      refine ⟨_, rfl, _, rfl, a, _, _, _, rfl, rfl, (ha.same sm).1, at_of (j := fi + i) (by omega) hat, _, rfl, ?_⟩
      generalize (if ns.getD (fi + i) 0 < 0 then -ns.getD (fi + i) 0 else ns.getD (fi + i) 0) = c
      refine ⟨_, rfl, _, _, rfl, rfl, decide ((1000000000000000000 : Int) ≤ c), rfl, ite2 (fun h => ?_) fun h => ?_⟩
      · refine ⟨_, rfl, by decide, by decide, ?_⟩
        refine for_range (fun j σ H' => ∃ l x4 c x6 x7, Same H H' ∧ H' D = some (.lst (nts l)) ∧ l.length ≤ m ∧ σ = [some (.ref a), some (.int (fi : Nat)), some (.int (m : Nat)), some (.ref D), x4, some (.int c), x6, x7]) ⟨l, _, c, _, _, sm, el, hl, rfl⟩ ?_ ?_
        · rintro j σ H'' hj ⟨l, x4, c, x6, x7, sm, el, hl, rfl⟩
          refine ⟨_, rfl, _, _, rfl, rfl, decide ((0 : Int) < c), rfl, ite2 (fun h1 => ?_) fun h1 => ?_⟩
          · refine ⟨_, rfl, D, _, rfl, .inl (SqL.of el), _, rfl, _, _, rfl, rfl, decide (l.length < m), ?_, ite2 (fun h2 => ?_) fun h2 => ?_⟩
            · rw [nts_len]
              exact congrArg V.bl (decide_eq_decide.mpr (by omega))
            · have h2 := of_decide_eq_true h2
              obtain ⟨n, hn⟩ := mod_nat c (m := 4096) (by decide)
              refine ⟨_, rfl, .inl ⟨rfl, _, SqL.of el⟩, _, rfl, .inl ⟨_, rfl, _, _, rfl, rfl, by show (0 : Int) < 4096; decide, D, _, _, rfl, rfl, el, small1000 (by rw [nts_len]; omega), ?_⟩⟩
              dsimp only
              rw [hn, nts_app]
              exact ⟨_, rfl, _, _, rfl, rfl, ⟨by decide, by decide⟩, l ++ [n], _, _, _, _, Fi.Same.upd_mine sm hD, upd_same, by rw [List.length_append, List.length_singleton]; omega, rfl⟩
            · exact ⟨l, _, _, _, _, sm, el, hl, rfl⟩
          · exact ⟨l, _, _, _, _, sm, el, hl, rfl⟩
        · rintro σ H'' ⟨l, x4, c, x6, x7, sm, el, hl, rfl⟩
          exact ⟨l, _, _, _, _, sm, el, hl, rfl⟩
      · have hc : c < 1000000000000000000 := by
          have : ¬ (1000000000000000000 : Int) ≤ c := fun z => h (decide_eq_true z)
          omega
        refine ⟨_, rfl, D, _, rfl, .inl (SqL.of el), _, rfl, _, _, rfl, rfl, decide (l.length < m), ?_, ite2 (fun h2 => ?_) fun h2 => ?_⟩
        · rw [nts_len]
          exact congrArg V.bl (decide_eq_decide.mpr (by omega))
        · have h2 := of_decide_eq_true h2
          have c1 : CMul c 48271 := .inr ⟨by decide, by decide⟩
          have c2 : CMul ((fi : Int) + (i : Nat)) 69621 := .inr ⟨by decide, by decide⟩
          refine ⟨_, rfl, _, _, rfl, rfl, c1, _, rfl, _, _, rfl, rfl, c2, _, _, rfl, rfl, _, _, rfl, rfl, .inl ⟨_, rfl, _, _, rfl, rfl, by show (0 : Int) < 2147483647; decide, ?_⟩⟩
          dsimp only
          generalize (c * 48271 + ((fi : Int) + (i : Nat)) * 69621 + 12345) % 2147483647 = mx
          have c3 : CMul mx 69621 := .inr ⟨by decide, by decide⟩
          refine ⟨_, rfl, _, _, rfl, rfl, c3, _, rfl, _, _, rfl, rfl, ⟨by decide, by decide⟩, _, _, rfl, rfl, .inl ⟨_, rfl, _, _, rfl, rfl, by show (0 : Int) < 1000003; decide, ?_⟩⟩
          dsimp only
          generalize (mx * 69621 + mx / 1009) % 1000003 = my
          obtain ⟨n, hn⟩ := mod_nat my (m := 4096) (by decide)
          refine ⟨_, rfl, .inl ⟨rfl, _, SqL.of el⟩, _, rfl, .inl ⟨_, rfl, _, _, rfl, rfl, by show (0 : Int) < 4096; decide, D, _, _, rfl, rfl, el, small1000 (by rw [nts_len]; omega), ?_⟩⟩
          dsimp only
          rw [hn, nts_app]
          exact ⟨l ++ [n], _, _, _, _, Fi.Same.upd_mine sm hD, upd_same, by rw [List.length_append, List.length_singleton]; omega, rfl⟩
        · exact ⟨l, _, _, _, _, sm, el, hl, rfl⟩
    · rintro σ H' ⟨l, x4, x5, x6, x7, sm, el, hl, rfl⟩
      exact ⟨_, rfl, q l hl D H' sm hD el⟩
end
end Fi
/-! the law's deck and deal -/
namespace Fi
open PySem PySem.Spec PyProof.Rows L2
theorem orAll_bit (b : Nat) : ∀ (l : List Nat) (a : Nat), (l.foldl (· ||| ·) a).testBit b = (a.testBit b || l.any fun h => h.testBit b)
  | [], a => by simp
  | h :: l, a => by
    rw [List.foldl_cons, orAll_bit b l, Nat.testBit_or, List.any_cons, Bool.or_assoc]
theorem erase_perm {c : Nat} : ∀ {l : List Nat} {j : Nat}, l[j]? = some c → (c :: l.eraseIdx j).Perm l
  | [], j, h => by simp at h
  | a :: l, 0, h => by
    have e : a = c := Option.some.inj h
    rw [e]; exact .refl _
  | a :: l, j + 1, h => by
    have ih := erase_perm (l := l) (j := j) (by simpa using h)
    show (c :: a :: l.eraseIdx j).Perm (a :: l)
    exact (List.Perm.swap a c _).trans (ih.cons a)
structure DealInv (N k : Nat) (L hs : List Nat) : Prop where
  len : hs.length = 4
  cnt : L.length + k = N
  nd : L.Nodup
  lt : ∀ c ∈ L, c < N
  free : ∀ c ∈ L, ∀ i, i < 4 → (hs.getD i 0).testBit c = false
  big : ∀ i, i < 4 → hs.getD i 0 < 2 ^ N
  dis : ∀ i j, i < j → j < 4 → ∀ b, (hs.getD i 0).testBit b = true → (hs.getD j 0).testBit b = false
  num : ∀ i, i < 4 → (cardsOf (hs.getD i 0)).length = (k + 3 - i) / 4
theorem DealInv.start (N : Nat) : DealInv N 0 (List.range N) [0, 0, 0, 0] := by
  have z : ∀ i, i < 4 → ([0, 0, 0, 0] : List Nat).getD i 0 = 0 := by decide
  refine ⟨rfl, by rw [List.length_range]; omega, List.nodup_range, fun c h => List.mem_range.mp h, fun c _ i hi => by rw [z i hi]; simp, fun i hi => by rw [z i hi]; exact Nat.pow_pos (by decide), fun i j h1 h2 b h => ?_, fun i hi => ?_⟩
  · rw [z i (by omega)] at h; simp at h
  · rw [z i hi, cardsOf_zero]
    show 0 = _
    omega
theorem DealInv.step {N k j c : Nat} {L hs : List Nat} (d : DealInv N k L hs) (h : L[j]? = some c) : DealInv N (k + 1) (L.eraseIdx j) (hs.set (k % 4) (hs.getD (k % 4) 0 ||| 1 <<< c)) := by
  obtain ⟨hj, ec⟩ := List.getElem?_eq_some_iff.mp h
  have pm := erase_perm h
  have nd2 := pm.nodup_iff.mpr d.nd
  obtain ⟨n1, n2⟩ := List.nodup_cons.mp nd2
  have sub : ∀ x ∈ L.eraseIdx j, x ∈ L := fun x hx => pm.mem_iff.mp (List.mem_cons_of_mem _ hx)
  have hcL : c ∈ L := pm.mem_iff.mp (List.mem_cons_self ..)
  have hk : k % 4 < hs.length := by rw [d.len]; exact Nat.mod_lt _ (by decide)
  have hk4 : k % 4 < 4 := Nat.mod_lt _ (by decide)
  have g : ∀ i, (hs.set (k % 4) (hs.getD (k % 4) 0 ||| 1 <<< c)).getD i 0 = if i = k % 4 then hs.getD (k % 4) 0 ||| 1 <<< c else hs.getD i 0 := fun i => getD_set hk
  have fc := d.free c hcL
  refine ⟨by rw [List.length_set]; exact d.len, ?_, n2, fun x hx => d.lt x (sub x hx), fun x hx i hi => ?_, fun i hi => ?_, fun i i' h1 h2 b hb => ?_, fun i hi => ?_⟩
  · have := d.cnt
    rw [List.length_eraseIdx, if_pos hj]; omega
  · rw [g]
    have hxc : x ≠ c := fun z => n1 (by rw [← z]; exact hx)
    split
    · rw [Nat.testBit_or, d.free x (sub x hx) _ hk4, tb_shift]; simp [hxc]
    · exact d.free x (sub x hx) i hi
  · rw [g]
    split
    · refine Nat.or_lt_two_pow (d.big _ hk4) ?_
      rw [Nat.one_shiftLeft]
      exact Nat.pow_lt_pow_right (by decide) (d.lt c hcL)
    · exact d.big i hi
  · rw [g] at hb ⊢
    by_cases e1 : i = k % 4
    · rw [if_pos e1] at hb
      rw [if_neg (by omega)]
      rw [Nat.testBit_or, tb_shift, Bool.or_eq_true] at hb
      rcases hb with hb | hb
      · rw [← e1] at hb
        exact d.dis i i' h1 h2 b hb
      · rw [of_decide_eq_true hb]; exact fc i' h2
    · rw [if_neg e1] at hb
      by_cases e2 : i' = k % 4
      · rw [if_pos e2, Nat.testBit_or, tb_shift, ← e2, d.dis i i' h1 h2 b hb, Bool.false_or]
        refine decide_eq_false fun z => ?_
        rw [z, fc i (by omega)] at hb; cases hb
      · rw [if_neg e2]; exact d.dis i i' h1 h2 b hb
  · rw [g]
    split
    · rename_i e
      rw [cardsOf_or_len (fc _ hk4), d.num _ hk4]
      omega
    · have := d.num i hi
      rw [this]; omega
theorem DealInv.ok {S R sz : Nat} {L hs : List Nat} (d : DealInv (S * R) (4 * sz) L hs) (s1 : 1 ≤ S) (s4 : S ≤ 4) (r1 : 1 ≤ R) (r13 : R ≤ 13) (sr : S * R ≤ 16) (z1 : 1 ≤ sz) : DealOk S R hs sz := by
  have get : ∀ h ∈ hs, ∃ i, i < 4 ∧ h = hs.getD i 0 := fun h hh => by
    obtain ⟨i, hi, e⟩ := List.mem_iff_getElem.mp hh
    have hl := d.len
    exact ⟨i, by omega, by rw [List.getD_eq_getElem?_getD, List.getElem?_eq_getElem hi, ← e]; rfl⟩
  refine ⟨d.len, s1, s4, r1, r13, sr, fun h hh => ?_, fun i h hi => ?_, fun h hh => ?_, by omega⟩
  · obtain ⟨i, hi, rfl⟩ := get h hh; exact d.big i hi
  · have hi4 : i < 4 := by
      have := (List.getElem?_eq_some_iff.mp hi).1
      have := d.len
      omega
    have eh : h = hs.getD i 0 := by rw [List.getD_eq_getElem?_getD, hi]; rfl
    refine Nat.eq_of_testBit_eq fun b => ?_
    rw [Nat.testBit_and, Nat.zero_testBit]
    unfold orAll
    rw [orAll_bit, Nat.zero_testBit, Bool.false_or]
    cases z : h.testBit b with
    | false => rfl
    | true =>
      rw [Bool.true_and, List.any_eq_false]
      intro y hy hb
      obtain ⟨m, hm, e⟩ := List.mem_take_iff_getElem.mp hy
      have hl := d.len
      have ey : y = hs.getD m 0 := by rw [List.getD_eq_getElem?_getD, List.getElem?_eq_getElem (by omega), ← e]; rfl
      have := d.dis m i (by omega) hi4 b (by rw [← ey]; exact hb)
      rw [← eh, z] at this; cases this
  · obtain ⟨i, hi, rfl⟩ := get h hh
    rw [d.num i hi]; omega
theorem or_nat (a c : Nat) : Builtin.bitOr (a : Int) ((1 : Int) * (2 : Int) ^ ((c : Nat) : Int).toNat) = ((a ||| (1 <<< c) : Nat) : Int) := by
  have e : (1 : Int) * (2 : Int) ^ ((c : Nat) : Int).toNat = ((1 <<< c : Nat) : Int) := shl_nat 1 c
  rw [e, Bits.bitOr_pp (Int.natCast_nonneg _) (Int.natCast_nonneg _)]
  rfl
theorem nts_erase : ∀ (l : List Nat) (j : Nat), (nts l).eraseIdx j = nts (l.eraseIdx j)
  | [], _ => rfl
  | a :: l, 0 => rfl
  | a :: l, j + 1 => by
    show V.int (a : Nat) :: (nts l).eraseIdx j = V.int (a : Nat) :: nts (l.eraseIdx j)
    rw [nts_erase l j]
def spDeal : Sp := fun vs H Q _ => ∃ (nl : Addr) (l : List Nat) (S R sz : Nat), vs = [.ref nl, .int (S : Nat), .int (R : Nat), .int (sz : Nat)] ∧ H nl = some (.lst (nts l)) ∧ l.length ≤ 1000 ∧ 1 ≤ S ∧ S ≤ 4 ∧ 1 ≤ R ∧ R ≤ 13 ∧ S * R ≤ 16 ∧ 1 ≤ sz ∧ 4 * sz ≤ S * R ∧
  ∀ hs : List Nat, DealOk S R hs sz → NewT H (nts hs) Q
section
variable {P : Program} {w : World} {K : PySem.W.Frag} {mg : Str → Option Value} {base : Heap}
theorem sc_law_deck : FnScope ["_law_number", "_law_size", "_law_suits", "_law_ranks"] ["_law_number", "_law_size"] (defScope (top 40)) := ⟨rfl, rfl, rfl, by decide +kernel, rfl, by decide +kernel, by decide +kernel⟩
theorem ok_law_deck (E : EntF K mg "_law_deck" (top 40)) (T : Txt K mg) : Df P w K mg base 1 "_law_deck" ["_law_number", "_law_size"] spDeckL := by
  refine df_mk E sc_law_deck (fun _ _ _ _ _ _ us hl => match us, hl with | [_, _], _ => rfl) (fun vs H Q E h => ?_) (fun f cdv A outer s H vs Q E hr h => ?_)
  · obtain ⟨d, sz, rfl, _⟩ := h; rfl
  · obtain ⟨d, sz, rfl, z1, z3, q⟩ := h
    refine ⟨_, (pss_cons (ps_set (i := 2) sc_law_deck.nd rfl (Or.inl rfl) (pe_op op_add pe_int (pe_op op_mod (pe_callTy call_int1 rfl T.f_int (by decide +kernel) (pa_cons (pv 0) pa_nil)) pe_int)))
      (pss_cons (ps_set (i := 3) sc_law_deck.nd rfl (Or.inl rfl) (pe_op op_add (pe_op op_fdiv (pe_op op_sub (pe_op op_add (pe_op op_mul pe_int (pv 1)) (pv 2)) pe_int) (pv 2)) (pe_op op_mod (pe_op op_fdiv (pe_callTy call_int1 rfl T.f_int (by decide +kernel) (pa_cons (pv 0) pa_nil)) pe_int) pe_int)))
      (pss_one (ps_ret (pe_tup (pa_cons (pv 2) (pa_cons (pv 3) pa_nil))))))), ?_⟩
    refine ⟨_, rfl, .inl ⟨_, rfl, _, _, rfl, rfl, by show (0 : Int) < 3; decide, _, _, rfl, rfl, ?_⟩⟩
    have c1 : CMul 4 ((sz : Nat) : Int) := .inl ⟨by decide, by decide⟩
    refine ⟨_, rfl, _, _, rfl, rfl, c1, _, rfl, _, _, rfl, rfl, _, _, rfl, rfl, _, rfl, _, _, rfl, rfl, ⟨by omega, by omega⟩, _, rfl, .inl ⟨_, rfl, _, _, rfl, rfl, ⟨by decide, by decide⟩, _, _, rfl, rfl, by show (0 : Int) < 2; decide, _, _, rfl, rfl, ?_⟩⟩
    refine ⟨_, rfl, _, rfl, by show (2 : Nat) ≤ sizeLine; decide, fun p hp => ?_⟩
    dsimp only
    obtain ⟨a, ha, a3⟩ : ∃ a : Nat, ((d : Nat) : Int) % 3 = a ∧ a < 3 := ⟨d % 3, by omega, Nat.mod_lt _ (by decide)⟩
    obtain ⟨b, hb, b2⟩ : ∃ b : Nat, ((d : Nat) : Int) / 3 % 2 = b ∧ b < 2 := ⟨d / 3 % 2, by omega, Nat.mod_lt _ (by decide)⟩
    rw [ha, hb]
    have fin : ∀ S R : Nat, (1 : Int) + (a : Nat) = (S : Nat) → (4 * ((sz : Nat) : Int) + ((1 : Int) + (a : Nat)) - 1) / ((1 : Int) + (a : Nat)) + (b : Nat) = (R : Nat) → 1 ≤ S → S ≤ 3 → 1 ≤ R → R ≤ 13 → 4 * sz ≤ S * R → S * R ≤ 16 → Q (.ref p) (upd H p (.tup [.int (1 + (a : Nat)), .int ((4 * ((sz : Nat) : Int) + (1 + (a : Nat)) - 1) / (1 + (a : Nat)) + (b : Nat))])) := fun S R e1 e2 h1 h2 h3 h4 h5 h6 => by
      rw [e2, e1]
      exact q S R h1 h2 h3 h4 h5 h6 p _ (Fi.Same.upd_new (Same.refl H) hp) hp upd_same
    have z : sz = 1 ∨ sz = 2 ∨ sz = 3 := by omega
    have a' : a = 0 ∨ a = 1 ∨ a = 2 := by omega
    have b' : b = 0 ∨ b = 1 := by omega
    rcases z with rfl | rfl | rfl <;> rcases a' with rfl | rfl | rfl <;> rcases b' with rfl | rfl
    all_goals exact fin _ _ (by rfl) (by rfl) (by decide) (by decide) (by decide) (by decide) (by decide) (by decide)
end
end Fi
/-! the law's deal, cards, winner -/
namespace Fi
open PySem PySem.Spec PyProof.Rows L2
theorem rg_nts (n : Nat) : rgV 0 (n : Nat) = nts (List.range n) := by
  unfold rgV nts
  have e : (((n : Nat) : Int) - 0).toNat = n := by omega
  rw [e]
  refine List.map_congr_left fun i _ => ?_
  show V.int (0 + (i : Nat)) = V.int (i : Nat)
  rw [Int.zero_add]
section
variable {P : Program} {w : World} {K : PySem.W.Frag} {mg : Str → Option Value} {base : Heap}
theorem sc_law_deal : FnScope ["_law_numbers_here", "_law_suits", "_law_ranks", "_law_size", "_law_left_here", "_law_hands", "_law_k", "_law_number"] ["_law_numbers_here", "_law_suits", "_law_ranks", "_law_size"] (defScope (top 39)) := ⟨rfl, rfl, rfl, by decide +kernel, rfl, by decide +kernel, by decide +kernel⟩
theorem ok_law_deal (E : EntF K mg "_law_deal" (top 39)) (T : Txt K mg) : Df P w K mg base 1 "_law_deal" ["_law_numbers_here", "_law_suits", "_law_ranks", "_law_size"] spDeal := by
  refine df_mk E sc_law_deal (fun _ _ _ _ _ _ us hl => match us, hl with | [_, _, _, _], _ => rfl) (fun vs H Q E h => ?_) (fun f cdv A outer s H vs Q E hr h => ?_)
  · obtain ⟨nl, l, S, R, sz, rfl, _⟩ := h; rfl
  · obtain ⟨nl, l, S, R, sz, rfl, hnl, l1000, s1, s4, r1, r13, sr, z1, z4, q⟩ := h
    refine ⟨_, (pss_cons (ps_set (i := 4) sc_law_deal.nd rfl (Or.inl rfl) (pe_listRg rfl rfl T.f_list (prg_1 rfl T.f_range (pe_op op_mul (pv 1) (pv 2)))))
      (pss_cons (ps_set (i := 5) sc_law_deal.nd rfl (Or.inl rfl) (pe_lst (pa_cons pe_int (pa_cons pe_int (pa_cons pe_int (pa_cons pe_int pa_nil))))))
      (pss_cons (ps_for PassesOwn.never rfl (pi_range1 rfl T.f_range (pa_cons (pe_op op_mul pe_int (pv 3)) pa_nil)) (pg_name (i := 6) sc_law_deal.nd rfl (Or.inl rfl)) (pss_cons (ps_set (i := 7) sc_law_deal.nd rfl (Or.inl rfl) pe_int)
      (pss_join (ps_if (pt_cmpR op_lt (pv 6) (pe_callB call_len_seq rfl T.f_len PySem.boot_len (pa_cons (pv 0) pa_nil)) (nomark _)) (pss_one (ps_set (i := 7) sc_law_deal.nd rfl (Or.inl rfl) (pe_callTy call_int1 rfl T.f_int (by decide +kernel) (pa_cons (pe_ix ix_list (pv 0) (pv 6) (fun _ _ => rfl)) pa_nil)))) pss_nil)
      (pss_one (ps_asg (pe_op op_or (pe_ix ix_list (pv 5) (pe_op op_mod (pe_callTy call_int1 rfl T.f_int (by decide +kernel) (pa_cons (pv 6) pa_nil)) pe_int) (fun _ _ => rfl)) (pe_op op_shl pe_int (pe_bm PySem.F.plainAttrs_list PySem.F.slot_list_pop PySem.F.type_list_pop mt_popAt (pv 4) (pa_cons (pe_op op_mod (pe_callTy call_int1 rfl T.f_int (by decide +kernel) (pa_cons (pv 7) pa_nil)) (pe_callB call_len_seq rfl T.f_len PySem.boot_len (pa_cons (pv 4) pa_nil))) pa_nil)))) (pg_sub (pv 5) (pe_op op_mod (pe_callTy call_int1 rfl T.f_int (by decide +kernel) (pa_cons (pv 6) pa_nil)) pe_int) set_list))))))
      (pss_one (ps_ret (pe_tup (pa_cons (pe_ix ix_list (pv 5) pe_int (fun _ _ => rfl)) (pa_cons (pe_ix ix_list (pv 5) pe_int (fun _ _ => rfl)) (pa_cons (pe_ix ix_list (pv 5) pe_int (fun _ _ => rfl)) (pa_cons (pe_ix ix_list (pv 5) pe_int (fun _ _ => rfl)) pa_nil)))))))))), ?_⟩
    have c1 : CMul ((S : Nat) : Int) ((R : Nat) : Int) := .inl ⟨by omega, by omega⟩
    have eSR : ((S : Nat) : Int) * ((R : Nat) : Int) = ((S * R : Nat) : Int) := by simp
    refine ⟨_, rfl, _, rfl, _, _, rfl, rfl, c1, _, rfl, ?_⟩
    rw [eSR]
    refine ⟨RgOk.of_le (by decide) (by omega) (by decide) (by omega), fun ll hll => ?_⟩
    rw [rg_nts]
    have s1' := Fi.Same.upd_new (Same.refl H) hll (o := .lst (nts (List.range (S * R))))
    have e1 : upd H ll (.lst (nts (List.range (S * R)))) ll = some (.lst (nts (List.range (S * R)))) := upd_same
    generalize upd H ll (.lst (nts (List.range (S * R)))) = H1 at *
    refine ⟨by show (4 : Nat) ≤ sizeLine; decide, fun hl hhl => ?_⟩
    have nlh : hl ≠ ll := ne_none e1 hhl
    have hlH : H hl = none := same_none s1' hhl
    have s2 : Same H (upd H1 hl (.lst (nts [0, 0, 0, 0]))) := s1'.trans (Fi.Same.upd_new (Same.refl H1) hhl)
    have e1 := Fi.Same.upd_new (Same.refl H1) hhl (o := .lst (nts [0, 0, 0, 0])) _ _ e1
    have e2 : upd H1 hl (.lst (nts [0, 0, 0, 0])) hl = some (.lst (nts [0, 0, 0, 0])) := upd_same
    change _
    have c4 : CMul 4 ((sz : Nat) : Int) := .inl ⟨by decide, by decide⟩
    have e4 : (4 : Int) * ((sz : Nat) : Int) = ((4 * sz : Nat) : Int) := by simp
    refine ⟨_, rfl, _, _, rfl, rfl, c4, _, rfl, by rw [e4]; omega, by rw [e4]; omega, ?_⟩
    refine for_range (fun i σ H' => ∃ L hs x6 x7, Same H H' ∧ DealInv (S * R) i L hs ∧ H' ll = some (.lst (nts L)) ∧ H' hl = some (.lst (nts hs)) ∧ σ = [some (.ref nl), some (.int (S : Nat)), some (.int (R : Nat)), some (.int (sz : Nat)), some (.ref ll), some (.ref hl), x6, x7]) ⟨_, _, _, _, s2, DealInv.start _, e1, e2, rfl⟩ ?_ ?_
    · rintro i σ H' hi ⟨L, hs, x6, x7, sm, dv, el, eh, rfl⟩
      have hi4 : i < 4 * sz := by rw [e4] at hi; omega
      refine ⟨fun σ H'' => ∃ num : Nat, H'' = H' ∧ σ = [some (.ref nl), some (.int (S : Nat)), some (.int (R : Nat)), some (.int (sz : Nat)), some (.ref ll), some (.ref hl), some (.int (0 + (i : Nat))), some (.int (num : Nat))], ?_, ?_⟩
      · refine ⟨_, rfl, _, rfl, nl, _, rfl, .inl (SqL.of (sm _ _ hnl)), _, _, rfl, rfl, decide (i < l.length), ?_, ite2 (fun h => ?_) fun h => ?_⟩
        · rw [nts_len]
          exact congrArg V.bl (decide_eq_decide.mpr (by omega))
        · have h := of_decide_eq_true h
          exact ⟨_, rfl, _, rfl, nl, _, _, _, rfl, rfl, SqL.of (sm _ _ hnl), at_of (j := i) (by omega) (nts_at (getD_at h)), .inl ⟨_, rfl, _, rfl, rfl⟩⟩
        · exact ⟨0, rfl, rfl⟩
      · rintro σ H'' ⟨num, rfl, rfl⟩
        have hlL := dv.cnt
        have hLpos : 0 < L.length := by omega
        obtain ⟨j, hj, hjl⟩ : ∃ j : Nat, ((num : Nat) : Int) % ((nts L).length : Nat) = (j : Nat) ∧ j < L.length := by
          rw [nts_len]
          exact ⟨num % L.length, by omega, Nat.mod_lt _ hLpos⟩
        have e6 : ((0 : Int) + (i : Nat)) % 4 = ((i % 4 : Nat) : Int) := by omega
        have hk : i % 4 < hs.length := by rw [dv.len]; exact Nat.mod_lt _ (by decide)
        have hcl := getD_at hjl
        generalize hcv : L.getD j 0 = c at *
        have c16 : c < 16 := Nat.lt_of_lt_of_le (dv.lt c (List.mem_of_getElem? hcl)) sr
        have dv2 := dv.step hcl
        refine ⟨_, rfl, _, rfl, .inl ⟨_, rfl, _, _, rfl, rfl, by show (0 : Int) < 4; decide, hl, _, _, _, rfl, rfl, SqL.of eh, at_of e6 (nts_at (getD_at hk)), ?_⟩⟩
        refine ⟨_, rfl, .inl ⟨rfl, _, SqL.of el⟩, _, rfl, .inl ⟨_, rfl, _, rfl, ll, _, rfl, .inl (SqL.of el), _, _, rfl, rfl, by rw [nts_len]; omega, ?_⟩⟩
        refine ⟨ll, nts L, _, j, V.int (c : Nat), rfl, rfl, el, ?_, ?_, ?_, nts_at hcl, ?_⟩
        · rw [hj]; omega
        · rw [hj]; omega
        · rw [hj]; exact (ixN_seq (ix_nat (by rw [nts_len]; exact hjl))).1
        have s3 : Same H (upd H'' ll (.lst ((nts L).eraseIdx j))) := Fi.Same.upd_mine sm hll
        have eh3 : upd H'' ll (.lst ((nts L).eraseIdx j)) hl = some (.lst (nts hs)) := (upd_ne nlh).trans eh
        have el3 : upd H'' ll (.lst ((nts L).eraseIdx j)) ll = some (.lst (nts (L.eraseIdx j))) := by rw [upd_same, nts_erase]
        generalize upd H'' ll (.lst ((nts L).eraseIdx j)) = H3 at *
        refine ⟨_, _, rfl, rfl, ⟨by omega, by omega, by decide⟩, _, _, rfl, rfl, ?_⟩
        refine ⟨_, rfl, _, rfl, .inl ⟨_, rfl, _, _, rfl, rfl, by show (0 : Int) < 4; decide, hl, _, _, i % 4, rfl, rfl, eh3, by rw [e6]; exact ix_nat (by rw [nts_len]; exact hk), ?_⟩⟩
        dsimp only
        rw [or_nat, nts_set]
        exact ⟨_, _, _, _, Fi.Same.upd_mine s3 hlH, dv2, (upd_ne nlh.symm).trans el3, upd_same, rfl⟩
    · rintro σ H' ⟨L, hs, x6, x7, sm, dv, el, eh, rfl⟩
      have ek : (4 * ((sz : Nat) : Int)).toNat = 4 * sz := by omega
      rw [ek] at dv
      have ok := dv.ok s1 s4 r1 r13 sr z1
      have hl4 := dv.len
      match hs, hl4 with
      | [a, b, c, d], _ =>
      refine ⟨_, rfl, hl, _, _, _, rfl, rfl, SqL.of eh, at_of (j := 0) rfl rfl, _, rfl, hl, _, _, _, rfl, rfl, SqL.of eh, at_of (j := 1) rfl rfl, _, rfl, hl, _, _, _, rfl, rfl, SqL.of eh, at_of (j := 2) rfl rfl, _, rfl, hl, _, _, _, rfl, rfl, SqL.of eh, at_of (j := 3) rfl rfl, by show (4 : Nat) ≤ sizeLine; decide, fun p hp => ?_⟩
      exact q [a, b, c, d] ok p _ (Fi.Same.upd_new sm hp) (same_none sm hp) upd_same
end
end Fi
/-! the law's cards, legal cards, winner -/
namespace Fi
open PySem PySem.Spec PyProof.Rows L2
def ntd (l : List Nat) : List PyData := l.map fun n => PyData.int (n : Nat)
theorem dpn {K : PySem.W.Frag} {H : Hp} : ∀ l : List Nat, DpAll K H (nts l) (ntd l)
  | [] => .nil
  | n :: l => .cons (.int _) (dpn l)
theorem ntd_lay : ∀ l : List Nat, PyData.canLayAll0 (ntd l) = true ∧ PyData.depthAll (ntd l) ≤ 1
  | [] => by unfold ntd; simp [PyData.canLayAll0, PyData.depthAll]
  | n :: l => by
    obtain ⟨a, b⟩ := ntd_lay l
    have e : ntd (n :: l) = PyData.int (n : Nat) :: ntd l := rfl
    rw [e]
    refine ⟨?_, ?_⟩
    · rw [PyData.canLayAll0, a]; rfl
    · rw [PyData.depthAll]
      have : PyData.depth (.int (n : Nat)) ≤ 1 := by unfold PyData.depth; omega
      omega
theorem shaped_tup (l : List Nat) : SeqAt.shaped (.tuple (ntd l)) = true := by
  obtain ⟨a, b⟩ := ntd_lay l
  unfold SeqAt.shaped
  rw [Bool.and_eq_true]
  refine ⟨by rw [PyData.canLay0]; exact a, decide_eq_true ?_⟩
  rw [PyData.depth]; omega
theorem shaped_lst (l : List Nat) : SeqAt.shaped (.list (ntd l)) = true := by
  obtain ⟨a, b⟩ := ntd_lay l
  unfold SeqAt.shaped
  rw [Bool.and_eq_true]
  refine ⟨by rw [PyData.canLay0]; exact a, decide_eq_true ?_⟩
  rw [PyData.depth]; omega
theorem eqv_tup_nil (l : List Nat) : PyData.eqv (.tuple (ntd l)) (.tuple []) = decide (l = []) := by
  cases l <;> simp [ntd, PyData.eqv, PyData.eqvAll]
theorem eqv_lst_nil (l : List Nat) : PyData.eqv (.list (ntd l)) (.list []) = decide (l = []) := by
  cases l <;> simp [ntd, PyData.eqv, PyData.eqvAll]
def spWinL : Sp := fun vs H Q _ => ∃ (dk cl : Addr) (S R : Nat) (tr : Int) (ld : Nat) (cs : List Nat), vs = [.ref dk, .int tr, .int (ld : Nat), .ref cl] ∧ DeckAt H dk S R ∧ H cl = some (.lst (nts cs)) ∧ 0 < R ∧ R ≤ 13 ∧ cs ≠ [] ∧ cs.length ≤ 1000 ∧ Q (.int (winner R tr ld cs : Nat)) H
section
variable {P : Program} {w : World} {K : PySem.W.Frag} {mg : Str → Option Value} {base : Heap}
theorem sc_law_cards : FnScope ["_law_mask", "_law_card"] ["_law_mask"] (defScope (top 42)) := ⟨rfl, rfl, rfl, by decide +kernel, rfl, by decide +kernel, by decide +kernel⟩
theorem ok_law_cards (E : EntF K mg "_law_cards" (top 42)) (T : Txt K mg) : Df P w K mg base 1 "_law_cards" ["_law_mask"] spCardsOf := by
  refine df_mk E sc_law_cards (fun _ _ _ _ _ _ us hl => match us, hl with | [_], _ => rfl) (fun vs H Q E h => ?_) (fun f cdv A outer s H vs Q E hr h => ?_)
  · obtain ⟨m, rfl, _⟩ := h; rfl
  · obtain ⟨m, rfl, hm, q⟩ := h
    refine ⟨_, (pss_one (ps_ret (pe_lc (own := [("_law_card", 1)]) (g := gName 1) rfl sc_law_cards.nd (pi_range1 rfl T.f_range (pa_cons (pe_bits (pv 0)) pa_nil)) (blkOk_by (N := ["_law_mask", "_law_card"]) (sc := defScope (top 42)) (by decide +kernel)) (fun _ _ _ _ _ => pg_name (i := 1) sc_law_cards.nd rfl (Or.inl rfl)) (fun _ _ _ _ _ => pts_one (pt_cmpR op_eq (pe_op op_and (pe_op op_shr (pv 0) (pv 1)) pe_int) pe_int (nomark _))) (fun _ _ _ _ _ => (pv 1))))), ?_⟩
    have hb := bl_le hm
    refine ⟨_, rfl, _, rfl, _, rfl, by omega, ?_, fun D hD => ?_⟩
    · rw [intBits_bl]; omega
    refine lc_range (lo := 0) (n := _) (fun i H' => Same H H' ∧ H' D = some (.lst (nts ((List.range i).filter fun c => m.testBit c))) ∧ i ≤ bl m) ⟨Fi.Same.upd_new (Same.refl H) hD, upd_same, Nat.zero_le _⟩ ?_ ?_
    · rintro i H' hi ⟨sm, hl, hib⟩
      have hi' : i < bl m := by
        have e : (((Builtin.Int.intBits (m : Nat) : Nat) : Int)).toNat = bl m := by rw [intBits_bl]; omega
        omega
      refine ⟨rfl, ?_⟩
      refine ⟨_, rfl, _, rfl, _, _, rfl, rfl, by omega, _, _, rfl, rfl, rfl, _, rfl, ?_⟩
      rw [bit_test]
      refine ite2 (fun hb => ?_) fun hb => ?_
      · refine ⟨_, rfl, _, hl, ?_, Fi.Same.upd_mine sm hD, ?_, hi'⟩
        · rw [nts_len, sizeLine_eq]
          have := List.length_filter_le (fun c => m.testBit c) (List.range i)
          rw [List.length_range] at this
          omega
        · rw [upd_same, range_filter_succ, if_pos hb, ← nts_app]
          have e : (0 : Int) + (i : Nat) = (i : Nat) := by omega
          rw [e]
      · refine ⟨sm, ?_, hi'⟩
        rw [hl, range_filter_succ, if_neg hb]
    · rintro H' ⟨sm, hl, _⟩
      refine q D H' sm hD ?_
      rw [hl]
      have e : (((Builtin.Int.intBits (m : Nat) : Nat) : Int)).toNat = bl m := by rw [intBits_bl]; omega
      rw [e]
      rfl
theorem sc_law_winner : FnScope ["_law_deck_here", "_law_trump", "_law_leader", "_law_cards_here", "_law_best", "_law_k", "_law_suit", "_law_top"] ["_law_deck_here", "_law_trump", "_law_leader", "_law_cards_here"] (defScope (top 44)) := ⟨rfl, rfl, rfl, by decide +kernel, rfl, by decide +kernel, by decide +kernel⟩
theorem ok_law_winner (E : EntF K mg "_law_winner" (top 44)) (T : Txt K mg) : Df P w K mg base 1 "_law_winner" ["_law_deck_here", "_law_trump", "_law_leader", "_law_cards_here"] spWinL := by
  refine df_mk E sc_law_winner (fun _ _ _ _ _ _ us hl => match us, hl with | [_, _, _, _], _ => rfl) (fun vs H Q E h => ?_) (fun f cdv A outer s H vs Q E hr h => ?_)
  · obtain ⟨dk, cl, S, R, tr, ld, cs, rfl, _⟩ := h; rfl
  · obtain ⟨dk, cl, S, R, tr, ld, cs, rfl, hd, hc, r0, r13, c0, c1000, q⟩ := h
    refine ⟨_, (pss_cons (ps_set (i := 4) sc_law_winner.nd rfl (Or.inl rfl) pe_int)
      (pss_cons (ps_for PassesOwn.never rfl (pi_range1 rfl T.f_range (pa_cons (pe_callB call_len_seq rfl T.f_len PySem.boot_len (pa_cons (pv 3) pa_nil)) pa_nil)) (pg_name (i := 5) sc_law_winner.nd rfl (Or.inl rfl)) (pss_cons (ps_set (i := 6) sc_law_winner.nd rfl (Or.inl rfl) (pe_op op_fdiv (pe_ix ix_list (pv 3) (pv 5) (fun _ _ => rfl)) (pe_ix ix_tup (pv 0) pe_int (fun _ _ => rfl))))
      (pss_cons (ps_set (i := 7) sc_law_winner.nd rfl (Or.inl rfl) (pe_op op_fdiv (pe_ix ix_list (pv 3) (pv 4) (fun _ _ => rfl)) (pe_ix ix_tup (pv 0) pe_int (fun _ _ => rfl))))
      (pss_one (ps_if (PW.pt (pw_or (PW.pt (pw_and (pt_cmpR op_eq (pv 6) (pv 7) (nomark _)) (pw_and1 (pt_cmpR op_gt (pe_ix ix_list (pv 3) (pv 5) (fun _ _ => rfl)) (pe_ix ix_list (pv 3) (pv 4) (fun _ _ => rfl)) (nomark _))))) (pw_or1 (PW.pt (pw_and (pt_cmpR op_eq (pv 6) (pv 1) (nomark _)) (pw_and1 (pt_cmpR op_ne (pv 7) (pv 1) (nomark _)))))))) (pss_one (ps_set (i := 4) sc_law_winner.nd rfl (Or.inl rfl) (pv 5))) pss_nil)))))
      (pss_one (ps_ret (pe_op op_mod (pe_callTy call_int1 rfl T.f_int (by decide +kernel) (pa_cons (pe_op op_add (pv 2) (pv 4)) pa_nil)) pe_int))))), ?_⟩
    have hn : (nts cs).length = cs.length := nts_len cs
    have cpos : 0 < cs.length := List.length_pos_iff.mpr c0
    have hdiv : ∀ c : Nat, ((c : Nat) : Int) / ((R : Nat) : Int) = ((c / R : Nat) : Int) := fun c => (Int.natCast_ediv c R).symm
    refine ⟨_, rfl, cl, _, rfl, .inl (SqL.of hc), _, rfl, by rw [hn]; omega, by rw [hn]; omega, ?_⟩
    refine for_range (fun i σ H' => H' = H ∧ ∃ x1 x2 x3, σ = [some (.ref dk), some (.int tr), some (.int (ld : Nat)), some (.ref cl), some (.int (winAt R tr cs i : Nat)), x1, x2, x3]) ⟨rfl, _, _, _, rfl⟩ ?_ ?_
    · rintro i σ H' hi ⟨rfl, x1, x2, x3, rfl⟩
      rw [hn] at hi
      have hil : i < cs.length := by omega
      have hci := getD_at hil
      have hb := winAt_lt R tr cs i
      have hbl : winAt R tr cs i < cs.length := by omega
      have hbc := getD_at hbl
      have hw := winAt_succ R tr cs i
      have ei : (0 : Int) + (i : Nat) = (i : Nat) := by omega
      generalize hcc : cs.getD i 0 = c at *
      generalize hB : winAt R tr cs i = B at *
      generalize hb' : cs.getD B 0 = b at *
      refine ⟨_, rfl, _, rfl, cl, _, _, _, rfl, rfl, SqL.of hc, at_of ei (nts_at hci), _, rfl, dk, _, _, _, rfl, rfl, SqT.of hd, at_of (j := 1) rfl rfl, _, _, rfl, rfl, ⟨by omega, by omega⟩, ?_⟩
      refine ⟨_, rfl, _, rfl, cl, _, _, _, rfl, rfl, SqL.of hc, at_of rfl (nts_at hbc), _, rfl, dk, _, _, _, rfl, rfl, SqT.of hd, at_of (j := 1) rfl rfl, _, _, rfl, rfl, ⟨by omega, by omega⟩, ?_⟩
      dsimp only
      rw [hdiv c, hdiv b]
      unfold beats at hw
      generalize c / R = cr at *
      generalize b / R = br at *
      by_cases h1 : cr = br
      · refine ⟨_, rfl, _, rfl, rfl, true, b_eqT (by rw [h1]), iteT ?_⟩
        by_cases h2 : b < c
        · refine ⟨_, rfl, _, rfl, cl, _, _, _, rfl, rfl, SqL.of hc, at_of ei (nts_at hci), _, rfl, _, rfl, cl, _, _, _, rfl, rfl, SqL.of hc, at_of rfl (nts_at hbc), _, _, rfl, rfl, true, b_T (by omega), iteT ?_⟩
          refine iteT ?_
          rw [if_pos (by simp [h1, h2])] at hw
          exact ⟨_, rfl, rfl, _, _, _, by rw [hw, ei]; rfl⟩
        · refine ⟨_, rfl, _, rfl, cl, _, _, _, rfl, rfl, SqL.of hc, at_of ei (nts_at hci), _, rfl, _, rfl, cl, _, _, _, rfl, rfl, SqL.of hc, at_of rfl (nts_at hbc), _, _, rfl, rfl, false, b_F (by omega), iteF ?_⟩
          by_cases h3 : ((cr : Nat) : Int) = tr
          · refine ⟨_, rfl, _, rfl, rfl, true, b_eqT h3, iteT ?_⟩
            by_cases h4 : ((br : Nat) : Int) = tr
            · refine ⟨_, rfl, _, rfl, rfl, false, b_neF h4, iteF ?_⟩
              rw [if_neg (by simp [h4, *])] at hw
              exact ⟨rfl, _, _, _, by rw [hw]; rfl⟩
            · refine ⟨_, rfl, _, rfl, rfl, true, b_neT h4, iteT ?_⟩
              rw [if_pos (by simp [h3, h4])] at hw
              exact ⟨_, rfl, rfl, _, _, _, by rw [hw, ei]; rfl⟩
          · refine ⟨_, rfl, _, rfl, rfl, false, b_eqF h3, iteF (iteF ?_)⟩
            rw [if_neg (by simp [h3, *])] at hw
            exact ⟨rfl, _, _, _, by rw [hw]; rfl⟩
      · refine ⟨_, rfl, _, rfl, rfl, false, b_eqF (by omega), iteF (iteF ?_)⟩
        by_cases h3 : ((cr : Nat) : Int) = tr
        · refine ⟨_, rfl, _, rfl, rfl, true, b_eqT h3, iteT ?_⟩
          by_cases h4 : ((br : Nat) : Int) = tr
          · refine ⟨_, rfl, _, rfl, rfl, false, b_neF h4, iteF ?_⟩
            rw [if_neg (by simp [h4, *])] at hw
            exact ⟨rfl, _, _, _, by rw [hw]; rfl⟩
          · refine ⟨_, rfl, _, rfl, rfl, true, b_neT h4, iteT ?_⟩
            rw [if_pos (by simp [h3, h4])] at hw
            exact ⟨_, rfl, rfl, _, _, _, by rw [hw, ei]; rfl⟩
        · refine ⟨_, rfl, _, rfl, rfl, false, b_eqF h3, iteF (iteF ?_)⟩
          rw [if_neg (by simp [h3, *])] at hw
          exact ⟨rfl, _, _, _, by rw [hw]; rfl⟩
    · rintro σ H' ⟨rfl, x1, x2, x3, rfl⟩
      have en : (((nts cs).length : Nat) : Int).toNat = cs.length := by rw [hn]; omega
      refine ⟨_, rfl, _, rfl, _, _, rfl, rfl, .inl ⟨_, rfl, _, _, rfl, rfl, by show (0 : Int) < 4; decide, ?_⟩⟩
      have e2 : (((ld : Nat) : Int) + ((winAt R tr cs (((nts cs).length : Nat) : Int).toNat : Nat) : Int)) % 4 = ((winner R tr ld cs : Nat) : Int) := by
        rw [en]
        show _ = (((ld + winIdx R tr cs) % 4 : Nat) : Int)
        have : winAt R tr cs cs.length = winIdx R tr cs := rfl
        rw [this]; omega
      have q' := q
      rw [← e2] at q'
      exact q'
end
end Fi
/-! the law's legal cards, next position -/
namespace Fi
open PySem PySem.Spec PyProof.Rows L2
def spLegalL : Sp := fun vs H Q _ => ∃ (dk b : Addr) (S R n : Nat) (p : Psn), vs = [.ref dk, .ref b] ∧ DeckAt H dk S R ∧ PosAt H b p ∧ 1 ≤ R ∧ R ≤ 13 ∧ Wf n p ∧ NewL H (nts (legal R p)) Q
section
variable {P : Program} {w : World} {K : PySem.W.Frag} {mg : Str → Option Value} {base : Heap}
theorem sc_law_legal : FnScope ["_law_deck_here", "_law_position", "_law_hand", "_law_cards_here", "_law_same", "_law_card"] ["_law_deck_here", "_law_position"] (defScope (top 43)) := ⟨rfl, rfl, rfl, by decide +kernel, rfl, by decide +kernel, by decide +kernel⟩
theorem ok_law_legal (E : EntF K mg "_law_legal" (top 43)) (T : Txt K mg) (D_cards : ∀ base, Df P w K mg base 1 "_law_cards" ["_law_mask"] spCardsOf) : Df P w K mg base 2 "_law_legal" ["_law_deck_here", "_law_position"] spLegalL := by
  refine df_mk E sc_law_legal (fun _ _ _ _ _ _ us hl => match us, hl with | [_, _], _ => rfl) (fun vs H Q E h => ?_) (fun f cdv A outer s H vs Q E hr h => ?_)
  · obtain ⟨dk, b, S, R, n, p, rfl, _⟩ := h; rfl
  · obtain ⟨dk, b, S, R, n, p, rfl, hd, ⟨ha, ta, pb, ph, pt⟩, r1, r13, wf, q⟩ := h
    refine ⟨_, (pss_cons (ps_set (i := 2) sc_law_legal.nd rfl (Or.inl rfl) (pe_ix ix_tup (pe_ix ix_tup (pv 1) pe_int (fun _ _ => rfl)) (pe_op op_mod (pe_op op_add (pe_ix ix_tup (pv 1) pe_int (fun _ _ => rfl)) (pe_callB call_len_seq rfl T.f_len PySem.boot_len (pa_cons (pe_ix ix_tup (pv 1) pe_int (fun _ _ => rfl)) pa_nil))) pe_int) (fun _ _ => rfl)))
      (pss_cons (ps_set (i := 3) sc_law_legal.nd rfl (Or.inl rfl) (pe_cd (D_cards _) hr rfl (pa_cons (pv 2) pa_nil)))
      (pss_cons (ps_if (pt_cmpR (op_neD hr.units) (pe_ix ix_tup (pv 1) pe_int (fun _ _ => rfl)) (pe_tup pa_nil) (nomark _)) (pss_cons (ps_setLc (own := [("_law_card", 5)]) (g := gName 5) (i := 4) rfl sc_law_legal.nd rfl rfl (sw_true rfl rfl rfl (by decide +kernel)) (pi_list (pv 3)) (blkOk_by (N := ["_law_deck_here", "_law_position", "_law_hand", "_law_cards_here", "_law_same", "_law_card"]) (sc := defScope (top 43)) (by decide +kernel)) (fun _ _ _ _ _ => pg_name (i := 5) sc_law_legal.nd rfl (Or.inl rfl)) (fun _ _ _ _ _ => pts_one (pt_cmpR op_eq (pe_op op_fdiv (pv 5) (pe_ix (r := rIxT K) ix_tup (pv 0) pe_int (fun _ _ => rfl))) (pe_op op_fdiv (pe_ix (r := rIxT K) ix_tup (pe_ix (r := rIxT K) ix_tup (pv 1) pe_int (fun _ _ => rfl)) pe_int (fun _ _ => rfl)) (pe_ix (r := rIxT K) ix_tup (pv 0) pe_int (fun _ _ => rfl))) (nomark _))) (fun _ _ _ _ _ => (pv 5)))
      (pss_one (ps_if (pt_cmpR (op_neD hr.units) (pv 4) (pe_lst pa_nil) (nomark _)) (pss_one (ps_ret (pv 4))) pss_nil))) pss_nil)
      (pss_one (ps_ret (pv 3)))))), ?_⟩
    have hm := wf.mv
    have hlen := wf.len
    have hm' : mover p < p.hs.length := by rw [hlen]; exact hm
    have hb : hand p < 2 ^ 16 := wf.big _ (getD_mem hm')
    have emv : (((p.ld : Nat) : Int) + ((nts p.tk).length : Nat)) % 4 = ((mover p : Nat) : Int) := by rw [nts_len]; unfold mover; omega
    refine ⟨_, rfl, b, _, _, _, rfl, rfl, SqT.of pb, at_of (j := 1) rfl rfl, _, rfl, b, _, _, _, rfl, rfl, SqT.of pb, at_of (j := 2) rfl rfl, _, rfl, b, _, _, _, rfl, rfl, SqT.of pb, at_of (j := 3) rfl rfl, ta, _, rfl, .inr (SqT.of pt), _, _, rfl, rfl, _, _, rfl, rfl, by show (0 : Int) < 4; decide, ha, _, _, _, rfl, rfl, SqT.of ph, at_of emv (nts_at (getD_at hm')), ?_⟩
    refine ⟨_, rfl, hand p, rfl, hb, fun cl H1 s1 hcl ecl => ?_⟩
    refine ⟨_, rfl, b, _, _, _, rfl, rfl, SqT.of (s1 _ _ pb), at_of (j := 3) rfl rfl, by show (0 : Nat) ≤ sizeLine; decide, fun e he => ?_⟩
    have s2 := Fi.Same.upd_new (Same.refl H1) he (o := .tup [])
    have ee : upd H1 e (.tup []) e = some (.tup []) := upd_same
    generalize upd H1 e (.tup []) = H2 at *
    have s12 := s1.trans s2
    refine ⟨_, _, .tup (SqT.of (s12 _ _ pt)) (dpn _), .tup (SqT.of ee) .nil, shaped_tup _, shaped_tup [], decide (p.tk ≠ []), ?_, ?_⟩
    · rw [eqv_tup_nil]; simp
    refine ite2 (fun ht => ?_) fun ht => ?_
    · have ht := of_decide_eq_true ht
      match etk : p.tk, ht with
      | c0 :: rest, _ =>
      rw [etk] at pt
      have c16 : c0 < 16 := wf.tkb c0 (by rw [etk]; exact List.mem_cons_self ..)
      have el : legal R p = if ofSuit R (hand p) (c0 / R) ≠ 0 then cardsOf (ofSuit R (hand p) (c0 / R)) else cardsOf (hand p) := by
        unfold legal; rw [etk]
      have eF := cardsOf_suit r1 (hand p) (c0 / R)
      have ecl2 := s2 _ _ ecl
      have pb2 := s12 _ _ pb
      have pt2 := s12 _ _ pt
      have hd2 : H2 dk = _ := s12 _ _ hd
      refine ⟨_, rfl, cl, rfl, ⟨_, SqL.of ecl2⟩, fun D hD => ?_⟩
      refine lc_list (xs := nts (cardsOf (hand p))) (fun i H' => Same H2 H' ∧ H' D = some (.lst (nts (((cardsOf (hand p)).take i).filter fun c => decide (c / R = c0 / R))))) ⟨Fi.Same.upd_new (Same.refl H2) hD, upd_same⟩ ?_ ?_ ?_
      · rintro i H' hi ⟨si, ei⟩
        exact SqL.of (si _ _ ecl2)
      · rintro i v H' hi ⟨si, ei⟩
        obtain ⟨c, hci, rfl⟩ := nts_inv hi
        have hil : i < (cardsOf (hand p)).length := (List.getElem?_eq_some_iff.mp hci).1
        have hcc : c < 16 := cards_lt hb (List.mem_of_getElem? hci)
        refine ⟨rfl, ?_⟩
        refine ⟨_, rfl, _, rfl, dk, _, _, _, rfl, rfl, SqT.of (si _ _ hd2), at_of (j := 1) rfl rfl, _, _, rfl, rfl, ⟨by omega, by omega⟩, ?_⟩
        refine ⟨_, rfl, b, _, _, _, rfl, rfl, SqT.of (si _ _ pb2), at_of (j := 3) rfl rfl, ta, _, _, _, rfl, rfl, SqT.of (si _ _ pt2), at_of (j := 0) rfl rfl, _, rfl, dk, _, _, _, rfl, rfl, SqT.of (si _ _ hd2), at_of (j := 1) rfl rfl, _, _, rfl, rfl, ⟨by omega, by omega⟩, rfl, decide (c / R = c0 / R), ?_, ?_⟩
        · have h1 : ((c : Nat) : Int) / ((R : Nat) : Int) = ((c / R : Nat) : Int) := (Int.natCast_ediv c R).symm
          have h2 : ((c0 : Nat) : Int) / ((R : Nat) : Int) = ((c0 / R : Nat) : Int) := (Int.natCast_ediv c0 R).symm
          exact congrArg V.bl (decide_eq_decide.mpr ⟨fun z => by
            have z : V.int (((c : Nat) : Int) / ((R : Nat) : Int)) = V.int (((c0 : Nat) : Int) / ((R : Nat) : Int)) := z
            injection z with z
            rw [h1, h2] at z
            omega, fun z => by
            show V.int (((c : Nat) : Int) / ((R : Nat) : Int)) = V.int (((c0 : Nat) : Int) / ((R : Nat) : Int))
            rw [h1, h2, z]⟩)
        · rw [take_snoc hci, List.filter_append, List.filter_cons, List.filter_nil]
          refine ite2 (fun z => ?_) fun z => ?_
          · refine ⟨_, rfl, _, ei, ?_, Fi.Same.upd_mine si hD, ?_⟩
            · rw [nts_len]
              have h1 := List.length_filter_le (fun c => decide (c / R = c0 / R)) ((cardsOf (hand p)).take i)
              have h2 := List.length_filter_le (fun c => (hand p).testBit c) (List.range (bl (hand p)))
              rw [List.length_range] at h2
              have h3 := bl_le hb
              have h4 : (cardsOf (hand p)).length ≤ bl (hand p) := h2
              rw [List.length_take] at h1
              exact le_size (by omega)
            · rw [upd_same, if_pos z, ← nts_app]
          · exact ⟨si, by rw [if_neg z, List.append_nil]; exact ei⟩
      · rintro H3 ⟨si, ei⟩
        rw [nts_len, List.take_length, ← eF] at ei
        refine ⟨_, rfl, by show (0 : Nat) ≤ sizeLine; decide, fun e2 he2 => ?_⟩
        have s4 := Fi.Same.upd_new (Same.refl H3) he2 (o := .lst [])
        have ee2 : upd H3 e2 (.lst []) e2 = some (.lst []) := upd_same
        generalize upd H3 e2 (.lst []) = H4 at *
        refine ⟨_, _, .lst (SqL.of (s4 _ _ ei)) (dpn _), .lst (SqL.of ee2) .nil, shaped_lst _, shaped_lst [], decide (ofSuit R (hand p) (c0 / R) ≠ 0), ?_, ?_⟩
        · rw [eqv_lst_nil]
          have : decide (cardsOf (ofSuit R (hand p) (c0 / R)) = []) = decide (ofSuit R (hand p) (c0 / R) = 0) := decide_eq_decide.mpr cardsOf_nil
          rw [this]; simp
        have s14 := s12.trans (si.trans s4)
        refine ite2 (fun z => ?_) fun z => ?_
        · have z := of_decide_eq_true z
          rw [if_pos z] at el
          rw [el] at q
          exact ⟨_, rfl, q D H4 s14 (same_none s12 hD) (s4 _ _ ei)⟩
        · rw [if_neg (fun y => z (decide_eq_true y))] at el
          rw [el] at q
          exact ⟨_, rfl, q cl H4 s14 hcl (s4 _ _ (si _ _ ecl2))⟩
    · have etk : p.tk = [] := by
        cases z : p.tk with
        | nil => rfl
        | cons a l => exact absurd (decide_eq_true (by rw [z]; simp)) ht
      have el : legal R p = cardsOf (hand p) := by
        unfold legal; rw [etk]
      rw [el] at q
      exact ⟨_, rfl, q cl H2 s12 hcl (s2 _ _ ecl)⟩
end
end Fi
/-! the law's next position -/
namespace Fi
open PySem PySem.Spec PyProof.Rows L2
def winV (R : Nat) (p : Psn) (c : Nat) : Int := if p.tk.length = 3 then ((winner R p.tr p.ld (p.tk ++ [c]) % 2 : Nat) : Int) else -1
theorem winV_gain {R side : Nat} {p : Psn} {c : Nat} : (if winV R p c = (side : Int) then (1 : Int) else 0) = gain R side p c := by
  unfold winV gain
  by_cases h : p.tk.length = 3
  · rw [if_pos h]
    by_cases z : winner R p.tr p.ld (p.tk ++ [c]) % 2 = side
    · rw [if_pos (by rw [z]), if_pos ⟨h, z⟩]
    · rw [if_neg (by omega), if_neg (fun y => z y.2)]
  · rw [if_neg h, if_neg (by omega), if_neg (fun y => h y.1)]
def spNextL : Sp := fun vs H Q _ => ∃ (dk b : Addr) (S R n : Nat) (p : Psn) (c : Nat), vs = [.ref dk, .ref b, .int (c : Nat)] ∧ DeckAt H dk S R ∧ PosAt H b p ∧ 1 ≤ R ∧ R ≤ 13 ∧ Wf (n + 1) p ∧ c ∈ legal R p ∧
  ∀ H' tp b', Same H H' → H' tp = some (.tup [.ref b', .int (winV R p c)]) → PosAt H' b' (nxt R p c) → Q (.ref tp) H'
section
variable {P : Program} {w : World} {K : PySem.W.Frag} {mg : Str → Option Value} {base : Heap}
theorem sc_law_next : FnScope ["_law_deck_here", "_law_position", "_law_card", "_law_trump", "_law_leader", "_law_turn", "_law_hands", "_law_led", "_law_winner_here"] ["_law_deck_here", "_law_position", "_law_card"] (defScope (top 45)) := ⟨rfl, rfl, rfl, by decide +kernel, rfl, by decide +kernel, by decide +kernel⟩
theorem ok_law_next (E : EntF K mg "_law_next" (top 45)) (T : Txt K mg) (D_winner : ∀ base, Df P w K mg base 1 "_law_winner" ["_law_deck_here", "_law_trump", "_law_leader", "_law_cards_here"] spWinL) : Df P w K mg base 2 "_law_next" ["_law_deck_here", "_law_position", "_law_card"] spNextL := by
  refine df_mk E sc_law_next (fun _ _ _ _ _ _ us hl => match us, hl with | [_, _, _], _ => rfl) (fun vs H Q E h => ?_) (fun f cdv A outer s H vs Q E hr h => ?_)
  · obtain ⟨dk, b, S, R, n, p, c, rfl, _⟩ := h; rfl
  · obtain ⟨dk, b, S, R, n, p, c, rfl, hd, ⟨ha, ta, pb, ph, pt⟩, r1, r13, wf, hc, q⟩ := h
    refine ⟨_, (pss_cons (ps_set (i := 3) sc_law_next.nd rfl (Or.inl rfl) (pe_ix ix_tup (pv 1) pe_int (fun _ _ => rfl)))
      (pss_cons (ps_set (i := 4) sc_law_next.nd rfl (Or.inl rfl) (pe_ix ix_tup (pv 1) pe_int (fun _ _ => rfl)))
      (pss_cons (ps_set (i := 5) sc_law_next.nd rfl (Or.inl rfl) (pe_op op_mod (pe_op op_add (pv 4) (pe_callB call_len_seq rfl T.f_len PySem.boot_len (pa_cons (pe_ix ix_tup (pv 1) pe_int (fun _ _ => rfl)) pa_nil))) pe_int))
      (pss_cons (ps_set (i := 6) sc_law_next.nd rfl (Or.inl rfl) (pe_callTy call_list_of rfl T.f_list (by decide +kernel) (pa_cons (pe_ix ix_tup (pv 1) pe_int (fun _ _ => rfl)) pa_nil)))
      (pss_cons (ps_asg (pe_op op_xor (pe_ix ix_list (pv 6) (pv 5) (fun _ _ => rfl)) (pe_op op_shl pe_int (pv 2))) (pg_sub (pv 6) (pv 5) set_list))
      (pss_join (ps_set (i := 7) sc_law_next.nd rfl (Or.inl rfl) (pe_op op_catA (pe_ix ix_tup (pv 1) pe_int (fun _ _ => rfl)) (pe_tup (pa_cons (pv 2) pa_nil))))
      (pss_cons (ps_if (pt_cmpR op_lt (pe_callB call_len_seq rfl T.f_len PySem.boot_len (pa_cons (pv 7) pa_nil)) pe_int (nomark _)) (pss_one (ps_ret (pe_tup (pa_cons (pe_tup (pa_cons (pv 3) (pa_cons (pe_tup (pa_cons (pe_ix ix_list (pv 6) pe_int (fun _ _ => rfl)) (pa_cons (pe_ix ix_list (pv 6) pe_int (fun _ _ => rfl)) (pa_cons (pe_ix ix_list (pv 6) pe_int (fun _ _ => rfl)) (pa_cons (pe_ix ix_list (pv 6) pe_int (fun _ _ => rfl)) pa_nil))))) (pa_cons (pv 4) (pa_cons (pv 7) pa_nil))))) (pa_cons (pe_un un_neg pe_int) pa_nil))))) pss_nil)
      (pss_cons (ps_set (i := 8) sc_law_next.nd rfl (Or.inl rfl) (pe_cd (D_winner _) hr rfl (pa_cons (pv 0) (pa_cons (pv 3) (pa_cons (pv 4) (pa_cons (pe_callTy call_list_of rfl T.f_list (by decide +kernel) (pa_cons (pv 7) pa_nil)) pa_nil))))))
      (pss_one (ps_ret (pe_tup (pa_cons (pe_tup (pa_cons (pv 3) (pa_cons (pe_tup (pa_cons (pe_ix ix_list (pv 6) pe_int (fun _ _ => rfl)) (pa_cons (pe_ix ix_list (pv 6) pe_int (fun _ _ => rfl)) (pa_cons (pe_ix ix_list (pv 6) pe_int (fun _ _ => rfl)) (pa_cons (pe_ix ix_list (pv 6) pe_int (fun _ _ => rfl)) pa_nil))))) (pa_cons (pv 8) (pa_cons (pe_tup pa_nil) pa_nil))))) (pa_cons (pe_op op_mod (pe_callTy call_int1 rfl T.f_int (by decide +kernel) (pa_cons (pv 8) pa_nil)) pe_int) pa_nil))))))))))))), ?_⟩
    have hm := wf.mv
    have hlen := wf.len
    have hm' : mover p < p.hs.length := by rw [hlen]; exact hm
    have hb16 : hand p < 2 ^ 16 := wf.big _ (getD_mem hm')
    have c16 : c < 16 := cards_lt hb16 (legal_sub r1 hc)
    have tk4 := wf.tk
    have emv : (((p.ld : Nat) : Int) + ((nts p.tk).length : Nat)) % 4 = ((mover p : Nat) : Int) := by rw [nts_len]; unfold mover; omega
    refine ⟨_, rfl, b, _, _, _, rfl, rfl, SqT.of pb, at_of (j := 0) rfl rfl, ?_⟩
    refine ⟨_, rfl, b, _, _, _, rfl, rfl, SqT.of pb, at_of (j := 2) rfl rfl, ?_⟩
    refine ⟨_, rfl, _, rfl, b, _, _, _, rfl, rfl, SqT.of pb, at_of (j := 3) rfl rfl, ta, _, rfl, .inr (SqT.of pt), _, _, rfl, rfl, _, _, rfl, rfl, by show (0 : Int) < 4; decide, ?_⟩
    refine ⟨_, rfl, b, _, _, _, rfl, rfl, SqT.of pb, at_of (j := 1) rfl rfl, ha, _, rfl, .inr (SqT.of ph), fun hl hhl => ?_⟩
    have s1 := Fi.Same.upd_new (Same.refl H) hhl (o := .lst (nts p.hs))
    have e1 : upd H hl (.lst (nts p.hs)) hl = some (.lst (nts p.hs)) := upd_same
    generalize upd H hl (.lst (nts p.hs)) = H1 at *
    refine ⟨_, rfl, _, rfl, hl, _, _, _, rfl, rfl, SqL.of e1, at_of emv (nts_at (getD_at hm')), _, rfl, _, _, rfl, rfl, ⟨by omega, by omega, by decide⟩, _, _, rfl, rfl, ?_⟩
    refine ⟨_, rfl, _, rfl, hl, _, _, mover p, rfl, rfl, e1, by rw [emv]; exact ix_nat (by rw [nts_len]; exact hm'), ?_⟩
    dsimp only
    rw [xor_nat, nts_set]
    have eh : p.hs.set (mover p) (p.hs.getD (mover p) 0 ^^^ 1 <<< c) = (nxt R p c).hs := (nxt_hs R p c).symm
    rw [eh]
    have s2 : Same H (upd H1 hl (.lst (nts (nxt R p c).hs))) := Fi.Same.upd_mine s1 hhl
    have e2 : upd H1 hl (.lst (nts (nxt R p c).hs)) hl = some (.lst (nts (nxt R p c).hs)) := upd_same
    generalize upd H1 hl (.lst (nts (nxt R p c).hs)) = H2 at *
    have hn4 := (wf.next r1 hc).len
    obtain ⟨h0, h1, h2, h3, ehs⟩ := (wf.next r1 hc).four
    refine ⟨fun σ H' => ∃ lt, Same H2 H' ∧ H' lt = some (.tup (nts (p.tk ++ [c]))) ∧ σ = [some (.ref dk), some (.ref b), some (.int (c : Nat)), some (.int p.tr), some (.int (p.ld : Nat)), some (.int ((((p.ld : Nat) : Int) + ((nts p.tk).length : Nat)) % 4)), some (.ref hl), some (.ref lt), none], ?_, ?_⟩
    · refine ⟨_, rfl, b, _, _, _, rfl, rfl, SqT.of (s2 _ _ pb), at_of (j := 3) rfl rfl, _, rfl, by show (1 : Nat) ≤ sizeLine; decide, fun ct hct => ?_⟩
      have s3 := Fi.Same.upd_new (Same.refl H2) hct (o := .tup [.int (c : Nat)])
      have e3 : upd H2 ct (.tup [.int (c : Nat)]) ct = some (.tup [.int (c : Nat)]) := upd_same
      generalize upd H2 ct (.tup [.int (c : Nat)]) = H3 at *
      refine ⟨ta, ct, nts p.tk, [.int (c : Nat)], rfl, rfl, SqT.of (s3 _ _ (s2 _ _ pt)), SqT.of e3, Nat.le_of_lt (small1000 (by rw [nts_len]; show p.tk.length + 1 ≤ 1000; omega)), fun z => ?_, fun _ z => (by cases z), fun _ _ q2 hq2 => ?_⟩
      · have z' : p.tk = [] := by
          cases y : p.tk with
          | nil => rfl
          | cons a l => rw [y] at z; cases z
        exact ⟨ct, s3, by rw [z']; exact e3, rfl⟩
      · exact ⟨q2, s3.trans (Fi.Same.upd_new (Same.refl H3) hq2), by rw [upd_same, nts_app], rfl⟩
    · rintro σ H3 ⟨lt, s3, elt, rfl⟩
      have s03 := s2.trans s3
      have e23 := s3 _ _ e2
      rw [ehs] at e23
      refine ⟨_, rfl, lt, _, rfl, .inr (SqT.of elt), _, _, rfl, rfl, decide (p.tk.length < 3), ?_, ite2 (fun z => ?_) fun z => ?_⟩
      · rw [nts_len, List.length_append, List.length_singleton]
        exact congrArg V.bl (decide_eq_decide.mpr (by omega))
      · have z := of_decide_eq_true z
        refine ⟨_, rfl, _, rfl, hl, _, _, _, rfl, rfl, SqL.of e23, at_of (j := 0) rfl rfl, _, rfl, hl, _, _, _, rfl, rfl, SqL.of e23, at_of (j := 1) rfl rfl, _, rfl, hl, _, _, _, rfl, rfl, SqL.of e23, at_of (j := 2) rfl rfl, _, rfl, hl, _, _, _, rfl, rfl, SqL.of e23, at_of (j := 3) rfl rfl, by show (4 : Nat) ≤ sizeLine; decide, fun ht hht => ?_⟩
        have s4 := Fi.Same.upd_new (Same.refl H3) hht (o := .tup (nts [h0, h1, h2, h3]))
        have e4 : upd H3 ht (.tup (nts [h0, h1, h2, h3])) ht = some (.tup (nts [h0, h1, h2, h3])) := upd_same
        refine ⟨_, rfl, _, rfl, by show (4 : Nat) ≤ sizeLine; decide, fun b' hb' => ?_⟩
        change ((upd H3 ht (.tup (nts [h0, h1, h2, h3]))) b' = none) at hb'
        have s5 := Fi.Same.upd_new (Same.refl (upd H3 ht (.tup (nts [h0, h1, h2, h3])))) hb' (o := .tup [.int p.tr, .ref ht, .int (p.ld : Nat), .ref lt])
        have e5 : upd (upd H3 ht (.tup (nts [h0, h1, h2, h3]))) b' (.tup [.int p.tr, .ref ht, .int (p.ld : Nat), .ref lt]) b' = some (.tup [.int p.tr, .ref ht, .int (p.ld : Nat), .ref lt]) := upd_same
        refine ⟨_, rfl, by show (2 : Nat) ≤ sizeLine; decide, fun tp htp => ?_⟩
        have s6 := Fi.Same.upd_new (Same.refl (upd (upd H3 ht (.tup (nts [h0, h1, h2, h3]))) b' (.tup [.int p.tr, .ref ht, .int (p.ld : Nat), .ref lt]))) htp (o := .tup [.ref b', .int (-1)])
        have ew : winV R p c = -1 := by unfold winV; rw [if_neg (by omega)]
        refine q _ tp b' (s03.trans (s4.trans (s5.trans s6))) (by rw [ew]; exact upd_same) ?_
        have en : nxt R p c = ⟨p.tr, [h0, h1, h2, h3], p.ld, p.tk ++ [c]⟩ := by
          rw [← ehs, nxt_hs]; unfold nxt; rw [if_neg (by omega)]
        rw [en]
        exact ⟨ht, lt, s6 _ _ e5, s6 _ _ (s5 _ _ e4), s6 _ _ (s5 _ _ (s4 _ _ elt))⟩
      · have z : p.tk.length = 3 := by
          have : ¬ p.tk.length < 3 := fun y => z (decide_eq_true y)
          omega
        refine ⟨_, rfl, _, rfl, _, rfl, _, rfl, lt, _, rfl, .inr (SqT.of elt), fun ll hll => ?_⟩
        have s4 := Fi.Same.upd_new (Same.refl H3) hll (o := .lst (nts (p.tk ++ [c])))
        have e4 : upd H3 ll (.lst (nts (p.tk ++ [c]))) ll = some (.lst (nts (p.tk ++ [c]))) := upd_same
        generalize upd H3 ll (.lst (nts (p.tk ++ [c]))) = H4 at *
        have s04 := s03.trans s4
        have e24 := s4 _ _ e23
        refine ⟨dk, ll, S, R, p.tr, p.ld, p.tk ++ [c], rfl, s04 _ _ hd, e4, r1, r13, by simp, by rw [List.length_append, List.length_singleton]; omega, ?_⟩
        generalize hw : winner R p.tr p.ld (p.tk ++ [c]) = wi at *
        refine ⟨_, rfl, _, rfl, hl, _, _, _, rfl, rfl, SqL.of e24, at_of (j := 0) rfl rfl, _, rfl, hl, _, _, _, rfl, rfl, SqL.of e24, at_of (j := 1) rfl rfl, _, rfl, hl, _, _, _, rfl, rfl, SqL.of e24, at_of (j := 2) rfl rfl, _, rfl, hl, _, _, _, rfl, rfl, SqL.of e24, at_of (j := 3) rfl rfl, by show (4 : Nat) ≤ sizeLine; decide, fun ht hht => ?_⟩
        have s5 := Fi.Same.upd_new (Same.refl H4) hht (o := .tup (nts [h0, h1, h2, h3]))
        have e5 : upd H4 ht (.tup (nts [h0, h1, h2, h3])) ht = some (.tup (nts [h0, h1, h2, h3])) := upd_same
        refine ⟨_, rfl, by show (0 : Nat) ≤ sizeLine; decide, fun et het => ?_⟩
        change ((upd H4 ht (.tup (nts [h0, h1, h2, h3]))) et = none) at het
        have s6 := Fi.Same.upd_new (Same.refl (upd H4 ht (.tup (nts [h0, h1, h2, h3])))) het (o := .tup [])
        have e6 : upd (upd H4 ht (.tup (nts [h0, h1, h2, h3]))) et (.tup []) et = some (.tup []) := upd_same
        have e56 := s6 _ _ e5
        change ((upd (upd H4 ht (.tup (nts [h0, h1, h2, h3]))) et (.tup [])) ht = _) at e56
        refine ⟨by show (4 : Nat) ≤ sizeLine; decide, fun b' hb' => ?_⟩
        change ((upd (upd H4 ht (.tup (nts [h0, h1, h2, h3]))) et (.tup [])) b' = none) at hb'
        have s46 := s5.trans s6
        have s7 := Fi.Same.upd_new (Same.refl (upd (upd H4 ht (.tup (nts [h0, h1, h2, h3]))) et (.tup []))) hb' (o := .tup [.int p.tr, .ref ht, .int (wi : Nat), .ref et])
        have e7 : upd (upd (upd H4 ht (.tup (nts [h0, h1, h2, h3]))) et (.tup [])) b' (.tup [.int p.tr, .ref ht, .int (wi : Nat), .ref et]) b' = some (.tup [.int p.tr, .ref ht, .int (wi : Nat), .ref et]) := upd_same
        refine ⟨_, rfl, .inl ⟨_, rfl, _, _, rfl, rfl, by show (0 : Int) < 2; decide, by show (2 : Nat) ≤ sizeLine; decide, fun tp htp => ?_⟩⟩
        change ((upd (upd (upd H4 ht (.tup (nts [h0, h1, h2, h3]))) et (.tup [])) b' (.tup [.int p.tr, .ref ht, .int (wi : Nat), .ref et])) tp = none) at htp
        have s8 := Fi.Same.upd_new (Same.refl (upd (upd (upd H4 ht (.tup (nts [h0, h1, h2, h3]))) et (.tup [])) b' (.tup [.int p.tr, .ref ht, .int (wi : Nat), .ref et]))) htp (o := .tup [.ref b', .int (((wi : Nat) : Int) % 2)])
        have ew : winV R p c = ((wi : Nat) : Int) % 2 := by unfold winV; rw [if_pos z, hw]; rfl
        refine q _ tp b' (s04.trans (s46.trans (s7.trans s8))) (by rw [ew]; exact upd_same) ?_
        have en : nxt R p c = ⟨p.tr, [h0, h1, h2, h3], wi, []⟩ := by
          rw [← ehs, nxt_hs]; unfold nxt; rw [if_pos z, hw]
        rw [en]
        exact ⟨ht, et, s8 _ _ e7, s8 _ _ (s7 _ _ e56), s8 _ _ (s7 _ _ e6)⟩
end
end Fi
/-! the law's own checker -/
namespace Fi
open PySem PySem.Spec PyProof.Rows L2
theorem eqv_tup4 (a b c d : Nat) : PyData.eqv (.tuple [.int (a : Nat), .int (b : Nat), .int (c : Nat), .int (d : Nat)]) (.tuple [.int 0, .int 0, .int 0, .int 0]) = decide ([a, b, c, d] = [0, 0, 0, 0]) := by
  rw [Bool.eq_iff_iff]
  simp [PyData.eqv, PyData.eqvAll]
theorem filter_eq_one {l : List Nat} {c : Nat} (hl : l.Pairwise (· < ·)) : (l.filter fun x => decide (c = x)) = if c ∈ l then [c] else [] := by
  refine asc_ext (hl.filter _) (by split <;> simp) fun x => ?_
  rw [List.mem_filter, decide_eq_true_iff]
  constructor
  · rintro ⟨h1, h2⟩
    subst h2
    rw [if_pos h1]; exact List.mem_singleton.mpr rfl
  · intro h
    split at h
    · rename_i hc
      have e := List.mem_singleton.mp h
      subst e; exact ⟨hc, rfl⟩
    · cases h
def spHoldsL (w : World) (n : Nat) : Sp := fun vs H Q _ => ∃ (dk b td kn : Addr) (side S R : Nat) (p : Psn) (g : Int) (t : Told) (k : Kept), vs = [.ref dk, .ref b, .int (side : Nat), .int g, .ref td, .ref kn] ∧ DeckAt H dk S R ∧ PosAt H b p ∧ 1 ≤ R ∧ R ≤ 13 ∧ Wf n p ∧ side < 2 ∧
  DN w H td (tdict t) ∧ DN w H kn (cdict k) ∧ td ≠ kn ∧ CkOk R side t k ∧ k.length + Bn n ≤ 1000000 ∧
  ∀ H' k', Kp [kn] H H' → DN w H' kn (cdict k') → CkOk R side t k' → k'.length ≤ k.length + Bn n → Q (.bl (hold R side (tf t) n p g)) H'
section
variable {P : Program} {w : World} {K : PySem.W.Frag} {mg : Str → Option Value} {base : Heap} {n : Nat}
theorem sc_law_holds : FnScope ["_law_deck_here", "_law_position", "_law_side", "_law_goal", "_law_told", "_law_known", "_law_key", "_law_cards_here", "_law_good", "_law_card", "_law_after"] ["_law_deck_here", "_law_position", "_law_side", "_law_goal", "_law_told", "_law_known"] (defScope (top 47)) := ⟨rfl, rfl, rfl, by decide +kernel, rfl, by decide +kernel, by decide +kernel⟩
theorem body_law_holds (T : Txt K mg) (D_legal : ∀ base, Df P w K mg base 2 "_law_legal" ["_law_deck_here", "_law_position"] spLegalL) (D_next : ∀ base, Df P w K mg base 2 "_law_next" ["_law_deck_here", "_law_position", "_law_card"] spNextL)
    {spV : Sp} (D_holds : ∀ base, Df P w K mg base (2 + n) "_law_holds" ["_law_deck_here", "_law_position", "_law_side", "_law_goal", "_law_told", "_law_known"] spV) (hV : ∀ m, n = m + 1 → spV = spHoldsL w m) :
    BodyOk P w K mg base (2 + n) ["_law_deck_here", "_law_position", "_law_side", "_law_goal", "_law_told", "_law_known", "_law_key", "_law_cards_here", "_law_good", "_law_card", "_law_after"] "_law_holds" (top 47) (spHoldsL w n) := by
  intro f cdv A outer s H vs Q E hr h
  · obtain ⟨dk, b, td, kn, side, S, R, p, g, t, k, rfl, hd, pa, r1, r13, wf, hsd, dtd, dkn, nkt, ck, cap, q⟩ := h
    refine ⟨_, (pss_cons (ps_if (pt_cmpR op_le (pv 3) pe_int (nomark _)) (pss_one (ps_ret pe_bl)) pss_nil)
      (pss_cons (ps_if (pt_cmpR (op_eqD hr.units) (pe_ix ix_tup (pv 1) pe_int (fun _ _ => rfl)) (pe_tup (pa_cons pe_int (pa_cons pe_int (pa_cons pe_int (pa_cons pe_int pa_nil))))) (nomark _)) (pss_one (ps_ret pe_bl)) pss_nil)
      (pss_cons (ps_set (i := 6) sc_law_holds.nd rfl (Or.inl rfl) (pe_tup (pa_cons (pv 1) (pa_cons (pv 3) pa_nil))))
      (pss_cons (ps_if (pt_cmp (pc_nin hr.units (pv 6) (pv 5))) (pss_one (ps_ret (pe_nget hr.units (pv 5) (pv 6) (fun _ _ => rfl)))) pss_nil)
      (pss_cons (ps_set (i := 7) sc_law_holds.nd rfl (Or.inl rfl) (pe_cd ((D_legal _).mono (by omega)) hr rfl (pa_cons (pv 0) (pa_cons (pv 1) pa_nil))))
      (pss_join (ps_if (pt_cmpR op_eq (pe_op op_mod (pe_op op_add (pe_ix ix_tup (pv 1) pe_int (fun _ _ => rfl)) (pe_callB call_len_seq rfl T.f_len PySem.boot_len (pa_cons (pe_ix ix_tup (pv 1) pe_int (fun _ _ => rfl)) pa_nil))) pe_int) (pv 2) (nomark _)) (pss_one (ps_setLc (own := [("_law_card", 9)]) (g := gName 9) (i := 7) rfl sc_law_holds.nd rfl rfl (sw_true rfl rfl rfl (by decide +kernel)) (pi_list (pv 7)) (blkOk_by (N := ["_law_deck_here", "_law_position", "_law_side", "_law_goal", "_law_told", "_law_known", "_law_key", "_law_cards_here", "_law_good", "_law_card", "_law_after"]) (sc := defScope (top 47)) (by decide +kernel)) (fun _ _ _ _ _ => pg_name (i := 9) sc_law_holds.nd rfl (Or.inl rfl)) (fun _ _ _ _ _ => pts_one (pt_cmpR op_eq (show PE _ _ (tNGet2 w (tVar 4) (tVar 1) _) from pe_nget2 hr.units (pv 4) (pv 1) (pe_un un_neg pe_int) ⟨rfl, rfl, rfl, rfl⟩) (pv 9) (nomark _))) (fun _ _ _ _ _ => (pv 9)))) pss_nil)
      (pss_cons (ps_set (i := 8) sc_law_holds.nd rfl (Or.inl rfl) (pe_cmpR (op_neD hr.units) (pv 7) (pe_lst pa_nil) (nomark _)))
      (pss_cons (ps_for PassesOwn.never rfl (pi_list (pv 7)) (pg_name (i := 9) sc_law_holds.nd rfl (Or.inl rfl)) (pss_one (ps_if (pt_val (pv 8)) (pss_cons (ps_set (i := 10) sc_law_holds.nd rfl (Or.inl rfl) (pe_cd ((D_next _).mono (by omega)) hr rfl (pa_cons (pv 0) (pa_cons (pv 1) (pa_cons (pv 9) pa_nil)))))
      (pss_one (ps_set (i := 8) sc_law_holds.nd rfl (Or.inl rfl) (pe_cd (D_holds _) hr rfl (pa_cons (pv 0) (pa_cons (pe_ix ix_tup (pv 10) pe_int (fun _ _ => rfl)) (pa_cons (pv 2) (pa_cons (pe_op op_sub (pv 3) (pe_callTy call_int1 rfl T.f_int (by decide +kernel) (pa_cons (pe_cmpR op_eq (pe_ix ix_tup (pv 10) pe_int (fun _ _ => rfl)) (pv 2) (nomark _)) pa_nil))) (pa_cons (pv 4) (pa_cons (pv 5) pa_nil)))))))))) pss_nil)))
      (pss_cons (ps_nput hr.units (pv 5) (pv 6) (pv 8) rfl)
      (pss_one (ps_ret (pv 8)))))))))))), ?_⟩
    obtain ⟨ha, ta, pb, ph, pt⟩ := id pa
    refine ⟨_, rfl, _, _, rfl, rfl, decide (g ≤ 0), rfl, ite2 (fun hg => ?_) fun hg => ?_⟩
    · have e : hold R side (tf t) n p g = true := hold_le (of_decide_eq_true hg)
      rw [e] at q
      exact q H k (.refl _ _) dkn ck (by omega)
    have hg : ¬ g ≤ 0 := fun z => hg (decide_eq_true z)
    obtain ⟨h0, h1, h2, h3, ehs⟩ := wf.four
    rw [ehs] at ph
    refine ⟨_, rfl, b, _, _, _, rfl, rfl, SqT.of pb, at_of (j := 1) rfl rfl, by show (4 : Nat) ≤ sizeLine; decide, fun z4 hz4 => ?_⟩
    have s1 := Fi.Same.upd_new (Same.refl H) hz4 (o := .tup [.int 0, .int 0, .int 0, .int 0])
    have ez4 : upd H z4 (.tup [.int 0, .int 0, .int 0, .int 0]) z4 = some (.tup [.int 0, .int 0, .int 0, .int 0]) := upd_same
    generalize upd H z4 (.tup [.int 0, .int 0, .int 0, .int 0]) = H1 at *
    refine ⟨_, _, .tup (SqT.of (s1 _ _ ph)) (dp4 _ _ _ _), .tup (SqT.of ez4) (dp4 _ _ _ _), rfl, rfl, decide (n = 0), ?_, ?_⟩
    · rw [eqv_tup4]
      have := wf.over_iff
      unfold over at this
      rw [ehs, decide_eq_true_iff] at this
      exact congrArg V.bl (decide_eq_decide.mpr this)
    cases n with
    | zero =>
      refine iteT ?_
      have e : hold R side (tf t) 0 p g = false := decide_eq_false hg
      rw [e] at q
      exact q H1 k (Kp.same s1) (dkn.keep (fun a xs e => s1 a _ e) (fun o e => s1 _ _ e)) ck (by omega)
    | succ n =>
    have eV := hV n rfl
    subst eV
    refine iteF ?_
    refine ⟨_, rfl, _, rfl, by show (2 : Nat) ≤ sizeLine; decide, fun kb hkb => ?_⟩
    have s2 := Fi.Same.upd_new (Same.refl H1) hkb (o := .tup [.ref b, .int g])
    have ekb : upd H1 kb (.tup [.ref b, .int g]) kb = some (.tup [.ref b, .int g]) := upd_same
    generalize upd H1 kb (.tup [.ref b, .int g]) = H2 at *
    have s12 := s1.trans s2
    have pa2 : PosAt H2 b p := pa.mono (fun a xs e => s12 a _ e)
    have key : ∀ {H'}, TK H2 H' → KeyAt H' (.ref kb) kb (gkey p g) := fun tk => gkey_at (pa2.mono tk) (tk _ _ ekb)
    have dkn2 := dkn.keep (fun a xs e => s12 a _ e) (fun o e => s12 _ _ e)
    refine ⟨_, rfl, _, rfl, kn, kb, gkey p g, _, rfl, key (fun _ _ e => e), dkn2, ?_⟩
    have ev : ∀ k', valV (cdict k') (gkey p g) = (glook k' (p, g)).map V.bl := fun k' => gd_val gk_inj (p, g) k'
    rw [ev]
    cases el : glook k (p, g) with
    | some v =>
      have e := ck.look el wf
      refine ⟨true, rfl, iteT ?_⟩
      refine ⟨_, rfl, _, rfl, kn, kb, gkey p g, _, .bl v, rfl, key (fun _ _ e => e), dkn2, by rw [ev, el]; rfl, ?_⟩
      rw [e]
      exact q H2 k (Kp.same s12) dkn2 ck (by omega)
    | none =>
    refine ⟨false, rfl, iteF ?_⟩
    refine ⟨_, rfl, _, rfl, dk, b, S, R, n + 1, p, rfl, s12 _ _ hd, pa2, r1, r13, wf, fun cl H3 s3 hcl ecl => ?_⟩
    have s13 := s12.trans s3
    have hlen := legal_le r1 wf
    have tk4 := wf.tk
    have hB : Bn (n + 1) = 1 + ((n + 4) / 4) * Bn n := rfl
    have hcap : Bn n ≤ Bn (n + 1) := Bn_mono (Nat.le_succ n)
    have hcap2 : (n + 4) / 4 * 1 ≤ (n + 4) / 4 * Bn n := Nat.mul_le_mul_left _ (by
      have := Bn_mono (Nat.zero_le n)
      exact this)
    refine ⟨fun σ H' => ∃ ca L, σ = [some (.ref dk), some (.ref b), some (.int (side : Nat)), some (.int g), some (.ref td), some (.ref kn), some (.ref kb), some (.ref ca), none, none, none] ∧ H ca = none ∧ H' ca = some (.lst (nts L)) ∧ Same H2 H' ∧ (∀ c ∈ L, c ∈ legal R p) ∧ L.length ≤ (n + 4) / 4 ∧
      hold R side (tf t) (n + 1) p g = (decide (L ≠ []) && L.all fun c => hold R side (tf t) n (nxt R p c) (g - gain R side p c)), ?_, ?_⟩
    · refine ⟨_, rfl, b, _, _, _, rfl, rfl, SqT.of (s13 _ _ pb), at_of (j := 2) rfl rfl, _, rfl, b, _, _, _, rfl, rfl, SqT.of (s13 _ _ pb), at_of (j := 3) rfl rfl, ta, _, rfl, .inr (SqT.of (s13 _ _ pt)), _, _, rfl, rfl, _, _, rfl, rfl, by show (0 : Int) < 2; decide, _, rfl, rfl, decide (mover p % 2 = side), ?_, ite2 (fun ht => ?_) fun ht => ?_⟩
      · refine congrArg V.bl (decide_eq_decide.mpr ⟨fun z => ?_, fun z => ?_⟩)
        · have z : V.int ((((p.ld : Nat) : Int) + ((nts p.tk).length : Nat)) % 2) = V.int ((side : Nat) : Int) := z
          injection z with z
          rw [nts_len] at z
          unfold mover; omega
        · show V.int ((((p.ld : Nat) : Int) + ((nts p.tk).length : Nat)) % 2) = V.int ((side : Nat) : Int)
          rw [nts_len]
          unfold mover at z
          congr 1
          omega
      · have ht := of_decide_eq_true ht
        refine ⟨_, rfl, cl, rfl, ⟨_, SqL.of ecl⟩, fun D hD => ?_⟩
        refine lc_list (xs := nts (legal R p)) (fun i H' => Same H3 H' ∧ H' D = some (.lst (nts (((legal R p).take i).filter fun c => decide (tf t p = some c))))) ⟨Fi.Same.upd_new (Same.refl H3) hD, upd_same⟩ ?_ ?_ ?_
        · rintro i H' hi ⟨si, ei⟩
          exact SqL.of (si _ _ ecl)
        · rintro i v H' hi ⟨si, ei⟩
          obtain ⟨c, hci, rfl⟩ := nts_inv hi
          have hil : i < (legal R p).length := (List.getElem?_eq_some_iff.mp hci).1
          have s2i : Same H2 H' := s3.trans si
          have s0i := s12.trans s2i
          have dtdi := dtd.keep (fun a xs e => s0i a _ e) (fun o e => s0i _ _ e)
          refine ⟨rfl, ?_⟩
          refine ⟨_, rfl, td, rfl, ⟨_, dtdi⟩, _, rfl, _, rfl, b, nkey p, _, (pa2.mono (fun a xs e => s2i a _ e)).key, dtdi, _, rfl, ?_⟩
          have evt : valV (tdict t) (nkey p) = (tf t p).map nv := gd_val (fun _ _ => nkey_inj) p t
          rw [evt]
          have h1 : scal (((tf t p).map nv).getD (V.int (-1))) (V.int (c : Nat)) = true := by cases tf t p <;> rfl
          have h2 : decide (((tf t p).map nv).getD (V.int (-1)) = V.int (c : Nat)) = decide (tf t p = some c) := by
            cases tf t p with
            | none =>
              rw [decide_eq_false (show ¬ (((none : Option Nat).map nv).getD (V.int (-1)) = V.int (c : Nat)) from fun z => by
                have z : V.int (-1) = V.int (c : Nat) := z
                injection z with z; omega), decide_eq_false (fun z => by cases z)]
            | some c' =>
              exact decide_eq_decide.mpr ⟨fun z => by
                have z : V.int (c' : Nat) = V.int (c : Nat) := z
                injection z with z
                congr 1; omega, fun z => by injection z with z; rw [z]; rfl⟩
          refine ⟨h1, decide (tf t p = some c), congrArg V.bl h2, ?_⟩
          rw [take_snoc hci, List.filter_append, List.filter_cons, List.filter_nil]
          refine ite2 (fun z => ?_) fun z => ?_
          · refine ⟨_, rfl, _, ei, ?_, Fi.Same.upd_mine si hD, ?_⟩
            · rw [nts_len]
              have h1 := List.length_filter_le (fun c => decide (tf t p = some c)) ((legal R p).take i)
              rw [List.length_take] at h1
              exact le_size (by omega)
            · rw [upd_same, if_pos z, ← nts_app]
          · exact ⟨si, by rw [if_neg z, List.append_nil]; exact ei⟩
        · rintro H4 ⟨si, ei⟩
          rw [nts_len, List.take_length] at ei
          have eL : ((legal R p).filter fun c => decide (tf t p = some c)) = match tf t p with
              | some c => if c ∈ legal R p then [c] else []
              | none => [] := by
            cases tf t p with
            | none => rw [List.filter_eq_nil_iff]; intro a _ h; exact absurd (of_decide_eq_true h) (by simp)
            | some c' =>
              have e : ((legal R p).filter fun c => decide (some c' = some c)) = (legal R p).filter fun c => decide (c' = c) := by
                congr 1
                funext c
                exact decide_eq_decide.mpr ⟨fun z => by injection z, fun z => by rw [z]⟩
              rw [e]; exact filter_eq_one legal_asc
          rw [eL] at ei
          have s24 : Same H2 H4 := s3.trans si
          have hD0 : H D = none := same_none s13 hD
          have eH : hold R side (tf t) (n + 1) p g = match tf t p with
              | some c => decide (c ∈ legal R p) && hold R side (tf t) n (nxt R p c) (g - gain R side p c)
              | none => false := by
            rw [hold, if_neg hg, if_pos ht]
            all_goals (cases tf t p <;> rfl)
          refine ⟨D, _, rfl, hD0, ei, s24, ?_, ?_, ?_⟩
          · cases tf t p with
            | none => intro c hc; cases hc
            | some c' =>
              intro c hc
              by_cases z : c' ∈ legal R p
              · have hc : c ∈ (if c' ∈ legal R p then [c'] else []) := hc
                rw [if_pos z] at hc
                rw [List.mem_singleton.mp hc]; exact z
              · have hc : c ∈ (if c' ∈ legal R p then [c'] else []) := hc
                rw [if_neg z] at hc; cases hc
          · cases tf t p with
            | none => exact Nat.zero_le _
            | some c' =>
              show (if c' ∈ legal R p then [c'] else []).length ≤ (n + 4) / 4
              split
              · show 1 ≤ (n + 4) / 4
                omega
              · exact Nat.zero_le _
          · rw [eH]
            cases et : tf t p with
            | none => rfl
            | some c' =>
              show (decide (c' ∈ legal R p) && _) = (decide ((if c' ∈ legal R p then [c'] else []) ≠ []) && (if c' ∈ legal R p then [c'] else []).all _)
              by_cases z : c' ∈ legal R p
              · rw [if_pos z, decide_eq_true z]; simp
              · rw [if_neg z, decide_eq_false z]; simp
      · have ht : ¬ mover p % 2 = side := fun z => ht (decide_eq_true z)
        refine ⟨cl, legal R p, rfl, same_none s12 hcl, ecl, s3, fun c h => h, hlen, ?_⟩
        rw [hold, if_neg hg, if_neg ht, decide_eq_true (legal_ne (R := R) wf), Bool.true_and]
    · rintro σ H4 ⟨ca, L, rfl, hca, eca, s24, hL, hLl, eH⟩
      obtain ⟨φ, ekn0⟩ := dkn.is
      have nca : ca ∉ [kn] := by
        rw [List.mem_singleton]
        rintro rfl
        rw [hca] at ekn0; cases ekn0
      refine ⟨_, rfl, by show (0 : Nat) ≤ sizeLine; decide, fun e he => ?_⟩
      have s5 := Fi.Same.upd_new (Same.refl H4) he (o := .lst [])
      have ee : upd H4 e (.lst []) e = some (.lst []) := upd_same
      generalize upd H4 e (.lst []) = H5 at *
      have s25 := s24.trans s5
      have s05 := s12.trans s25
      refine ⟨_, _, .lst (SqL.of (s5 _ _ eca)) (dpn _), .lst (SqL.of ee) .nil, shaped_lst _, shaped_lst [], ?_⟩
      rw [eqv_lst_nil]
      have eca5 := s5 _ _ eca
      have edec : (!decide (L = [])) = decide (L ≠ []) := by simp
      rw [edec]
      refine ⟨_, rfl, ca, rfl, ⟨_, SqL.of eca5⟩, ?_⟩
      refine for_list (xs := nts L) (fun i σ H' => ∃ ki x9 x10, Kp [kn] H5 H' ∧ DN w H' kn (cdict ki) ∧ CkOk R side t ki ∧ ki.length ≤ k.length + i * Bn n ∧
        σ = [some (.ref dk), some (.ref b), some (.int (side : Nat)), some (.int g), some (.ref td), some (.ref kn), some (.ref kb), some (.ref ca), some (.bl (decide (L ≠ []) && (L.take i).all fun c => hold R side (tf t) n (nxt R p c) (g - gain R side p c))), x9, x10]) ⟨k, none, none, .refl _ _, dkn.keep (fun a xs e => s05 a _ e) (fun o e => s05 _ _ e), ck, by omega, by
          simp⟩ ?_ ?_ ?_
      · rintro i σ H' hi ⟨ki, x9, x10, kp5, dki, cki, c1, rfl⟩
        exact SqL.of (kp5.at eca5 nca)
      · rintro i v σ H' hi ⟨ki, x9, x10, kp5, dki, cki, c1, rfl⟩
        obtain ⟨c, hci, rfl⟩ := nts_inv hi
        have hmem : c ∈ legal R p := hL c (List.mem_of_getElem? hci)
        have hil : i < L.length := (List.getElem?_eq_some_iff.mp hci).1
        have hmul : (i + 1) * Bn n ≤ ((n + 4) / 4) * Bn n := Nat.mul_le_mul_right _ (by omega)
        have hmul2 : (i + 1) * Bn n = i * Bn n + Bn n := Nat.succ_mul _ _
        have k0i : Kp [kn] H H' := (Kp.same s05).trans kp5 (fun z hz => .inl hz)
        have eA : ((L.take (i + 1)).all fun c => hold R side (tf t) n (nxt R p c) (g - gain R side p c)) = (((L.take i).all fun c => hold R side (tf t) n (nxt R p c) (g - gain R side p c)) && hold R side (tf t) n (nxt R p c) (g - gain R side p c)) := by
          rw [take_snoc hci, List.all_append]; simp
        refine ⟨_, rfl, _, rfl, ite2 (fun hh => ?_) fun hh => ?_⟩
        · refine ⟨_, rfl, _, rfl, _, rfl, dk, b, S, R, n, p, c, rfl, k0i.tk _ _ hd, pa.mono k0i.tk, r1, r13, wf, hmem, fun H6 tp b' s6 etp pa6 => ?_⟩
          have k06 : Kp [kn] H H6 := k0i.trans (Kp.same s6 : Kp [] H' H6) (fun z hz => nomatch hz)
          have eg : (if decide (V.int (winV R p c) = V.int ((side : Nat) : Int)) = true then (1 : Int) else 0) = gain R side p c := by
            rw [← winV_gain]
            by_cases z : winV R p c = (side : Int)
            · rw [if_pos z, z, decide_eq_true rfl]; rfl
            · rw [if_neg z, decide_eq_false (fun y => z (by injection y))]; rfl
          refine ⟨_, rfl, _, rfl, tp, _, _, _, rfl, rfl, SqT.of etp, at_of (j := 0) rfl rfl, _, rfl, _, rfl, _, rfl, tp, _, _, _, rfl, rfl, SqT.of etp, at_of (j := 1) rfl rfl, _, rfl, rfl, .inr ⟨_, rfl, _, _, rfl, rfl, _, rfl, _, rfl, ?_⟩⟩
          refine ⟨dk, b', td, kn, side, S, R, nxt R p c, g - gain R side p c, t, ki, congrArg (fun z => [V.ref dk, V.ref b', V.int (side : Nat), V.int (g - z), V.ref td, V.ref kn]) eg, k06.tk _ _ hd, pa6, r1, r13, wf.next r1 hmem, hsd, dtd.keep k06.tk (fun o e => k06.at e (by simpa using nkt)), dki.keep (fun a xs e => s6 a _ e) (fun o e => s6 _ _ e), nkt, cki, by omega, fun H7 k7 kp7 dk7 ck7 c7 => ?_⟩
          refine ⟨k7, some (.int (c : Nat)), some (.ref tp), (kp5.trans (Kp.same s6 : Kp [] H' H6) (fun z hz => nomatch hz)).trans kp7 (fun z hz => .inl hz), dk7, ck7, by omega, ?_⟩
          have hh2 := Bool.and_eq_true_iff.mp hh
          rw [eA, hh2.1, hh2.2, Bool.true_and, Bool.true_and]
          rfl
        · refine ⟨ki, some (.int (c : Nat)), x10, kp5, dki, cki, by omega, ?_⟩
          have hh2 : (decide (L ≠ []) && (L.take i).all fun c => hold R side (tf t) n (nxt R p c) (g - gain R side p c)) = false := by simpa using hh
          rw [eA, ← Bool.and_assoc, hh2, Bool.false_and]
          rfl
      · rintro σ H' ⟨kl, x9, x10, kp5, dkl, ckl, c1, rfl⟩
        rw [nts_len] at c1 ⊢
        rw [List.take_length, ← eH]
        have hmul : L.length * Bn n ≤ ((n + 4) / 4) * Bn n := Nat.mul_le_mul_right _ hLl
        have k2l : TK H2 H' := fun a xs e => kp5.tk a xs (s25 _ _ e)
        refine ⟨_, rfl, _, rfl, _, rfl, kn, kb, gkey p g, _, rfl, key k2l, dkl, le_size (by unfold cdict; rw [gd_len]; omega), fun o d9 => ?_⟩
        obtain ⟨φ', ekl⟩ := dkl.is
        have k9 : Kp [kn] H' (upd H' kn o) := (Kp.refl [kn] H').chg ekl not_imm_ext (.inl (by simp))
        have hg9 := gput_len kl (p, g) (hold R side (tf t) (n + 1) p g)
        refine ⟨_, rfl, q _ (gput kl (p, g) (hold R side (tf t) (n + 1) p g)) (((Kp.same s05).trans kp5 (fun z hz => .inl hz)).trans k9 (fun z hz => .inl hz)) ?_ (ckl.put wf) (by omega)⟩
        unfold cdict
        rw [gd_put gk_inj]
        exact d9
theorem len_law_holds (vs : List V) (H : Hp) (Q : VK) (E : XK) (h : spHoldsL w n vs H Q E) : vs.length = ["_law_deck_here", "_law_position", "_law_side", "_law_goal", "_law_told", "_law_known"].length := by
  obtain ⟨dk, b, td, kn, side, S, R, p, g, t, k, rfl, _⟩ := h; rfl
theorem ok_law_holds (E : EntF K mg "_law_holds" (top 47)) (T : Txt K mg) (D_legal : ∀ base, Df P w K mg base 2 "_law_legal" ["_law_deck_here", "_law_position"] spLegalL) (D_next : ∀ base, Df P w K mg base 2 "_law_next" ["_law_deck_here", "_law_position", "_law_card"] spNextL)
    {spV : Sp} (D_holds : ∀ base, Df P w K mg base (2 + n) "_law_holds" ["_law_deck_here", "_law_position", "_law_side", "_law_goal", "_law_told", "_law_known"] spV) (hV : ∀ m, n = m + 1 → spV = spHoldsL w m) :
    Df P w K mg base (3 + n) "_law_holds" ["_law_deck_here", "_law_position", "_law_side", "_law_goal", "_law_told", "_law_known"] (spHoldsL w n) := by
  rw [show 3 + n = (2 + n) + 1 by omega]
  exact df_mk E sc_law_holds (fun _ _ _ _ _ _ us hl => match us, hl with | [_, _, _, _, _, _], _ => rfl) len_law_holds (body_law_holds T D_legal D_next D_holds hV)
theorem law_holds_all (E : EntF K mg "_law_holds" (top 47)) (T : Txt K mg) (D_legal : ∀ base, Df P w K mg base 2 "_law_legal" ["_law_deck_here", "_law_position"] spLegalL) (D_next : ∀ base, Df P w K mg base 2 "_law_next" ["_law_deck_here", "_law_position", "_law_card"] spNextL) :
    ∀ n base, Df P w K mg base (3 + n) "_law_holds" ["_law_deck_here", "_law_position", "_law_side", "_law_goal", "_law_told", "_law_known"] (spHoldsL w n)
  | 0 => fun base => by
    have never : ∀ base, Df P w K mg base 1 "_law_holds" ["_law_deck_here", "_law_position", "_law_side", "_law_goal", "_law_told", "_law_known"] (fun _ _ _ _ => False) := fun base =>
      df_mk (k := 0) E sc_law_holds (fun _ _ _ _ _ _ us hl => match us, hl with | [_, _, _, _, _, _], _ => rfl) (fun _ _ _ _ h => h.elim) (fun _ _ _ _ _ _ _ _ _ _ h => h.elim)
    exact ok_law_holds (n := 0) E T D_legal D_next (fun base => (never base).mono (by decide)) (fun m h => by omega)
  | n + 1 => fun base => by
    have ih := law_holds_all E T D_legal D_next n
    exact ok_law_holds (n := n + 1) (spV := spHoldsL w n) E T D_legal D_next (fun base => (ih base).mono (by omega)) (fun m h => by
      have : m = n := by omega
      rw [this])
/-- for every number of cards up to 12 -/
def spHoldsU (w : World) : Sp := fun vs H Q E => ∃ n, n ≤ 12 ∧ spHoldsL w n vs H Q E
theorem law_holds_u (E : EntF K mg "_law_holds" (top 47)) (T : Txt K mg) (D_legal : ∀ base, Df P w K mg base 2 "_law_legal" ["_law_deck_here", "_law_position"] spLegalL) (D_next : ∀ base, Df P w K mg base 2 "_law_next" ["_law_deck_here", "_law_position", "_law_card"] spNextL) :
    Df P w K mg base 15 "_law_holds" ["_law_deck_here", "_law_position", "_law_side", "_law_goal", "_law_told", "_law_known"] (spHoldsU w) := by
  have never : ∀ base, Df P w K mg base 1 "_law_holds" ["_law_deck_here", "_law_position", "_law_side", "_law_goal", "_law_told", "_law_known"] (fun _ _ _ _ => False) := fun base =>
    df_mk (k := 0) E sc_law_holds (fun _ _ _ _ _ _ us hl => match us, hl with | [_, _, _, _, _, _], _ => rfl) (fun _ _ _ _ h => h.elim) (fun _ _ _ _ _ _ _ _ _ _ h => h.elim)
  refine df_mk E sc_law_holds (fun _ _ _ _ _ _ us hl => match us, hl with | [_, _, _, _, _, _], _ => rfl) (fun vs H Q E' h => ?_) (fun f cdv A outer s H vs Q E' hr h => ?_)
  · obtain ⟨n, _, h⟩ := h
    exact len_law_holds vs H Q E' h
  · obtain ⟨n, n12, h⟩ := h
    cases n with
    | zero => exact body_law_holds (n := 0) T D_legal D_next (fun base => (never base).mono (by decide)) (fun m h => by omega) f cdv A outer s H vs Q E' (hr.mono (by decide)) h
    | succ n => exact body_law_holds (n := n + 1) (spV := spHoldsL w n) T D_legal D_next (fun base => (law_holds_all E T D_legal D_next n base).mono (by omega)) (fun m h => by
        have : m = n := by omega
        rw [this]) f cdv A outer s H vs Q E' (hr.mono (by omega)) h
end
end Fi
/-! the drawn play -/
namespace Fi
open PySem PySem.Spec PyProof.Rows L2
theorem DealOk.wf {S R m ld : Nat} {hs : List Nat} {tr : Int} (d : DealOk S R hs m) (h : ld < 4) : Good S R (4 * m) ⟨⟨tr, hs, ld, []⟩, 0, 0, [], []⟩ ↔ 4 * m ≤ 100 := by
  constructor
  · intro g; have := g.h100; simpa using this
  intro hm
  refine ⟨d.s1, d.s4, d.r1, d.r13, ⟨d.len, h, by show 0 < 4; decide, fun x hx => Nat.lt_of_lt_of_le (d.big x hx) (Nat.pow_le_pow_right (by decide) d.SR), (fun c hc => nomatch hc), m, rfl, fun i hi => ?_⟩, by simpa using hm, by simpa using hm⟩
  have hl : (ld + i) % 4 < hs.length := by rw [d.len]; exact Nat.mod_lt _ (by decide)
  show (cardsOf (hs.getD ((ld + i) % 4) 0)).length + (if i < 0 then 1 else 0) = m
  rw [if_neg (Nat.not_lt_zero _), d.cnt _ (getD_mem hl)]
  rfl
def spDrawn (K : PySem.W.Frag) (CG : Addr) : Sp := fun vs H Q _ => ∃ (a : Addr) (ns : List Int), vs = [.ref a, .int 3] ∧ ScrAt K H a ns ∧
  ∀ (H' : Hp) (tp dk x : Addr) (Y : List Addr) (S R n : Nat) (st : PS), Same H H' → H' tp = some (.tup [.ref dk, .ref x]) → Pl CG x dk Y S R n H' st → n ≤ 12 → Q (.ref tp) H'
section
variable {P : Program} {w : World} {K : PySem.W.Frag} {mg : Str → Option Value} {base : Heap} {CG : Addr}
theorem sc_law_drawn : FnScope ["_law_script", "_law_most", "_law_digit", "_law_size", "_law_deck_here", "_law_numbers_here", "_law_hands", "_law_trump", "_law_play", "_law_moves", "_law_many", "_law_k", "_law_cards_here"] ["_law_script", "_law_most"] (defScope (top 41)) := ⟨rfl, rfl, rfl, by decide +kernel, rfl, by decide +kernel, by decide +kernel⟩
theorem ok_law_drawn (E : EntF K mg "_law_drawn" (top 41)) (T : Txt K mg) (G : PlayM P w K mg CG) (D_cell : ∀ base, Df P w K mg base 1 "_law_cell" ["_law_script", "_law_k"] (spCell K)) (D_deck : ∀ base, Df P w K mg base 1 "_law_deck" ["_law_number", "_law_size"] spDeckL)
    (D_numbers : ∀ base, Df P w K mg base 1 "_law_numbers" ["_law_script", "_law_first", "_law_most"] (spNumbers K)) (D_deal : ∀ base, Df P w K mg base 1 "_law_deal" ["_law_numbers_here", "_law_suits", "_law_ranks", "_law_size"] spDeal)
    (N_Play : ∀ base, Mc P w K mg base CG 4 "Play" ["self", "deck", "hands", "trump", "leader"] (spInit CG)) : Df P w K mg base 6 "_law_drawn" ["_law_script", "_law_most"] (spDrawn K CG) := by
  refine df_mk E sc_law_drawn (fun _ _ _ _ _ _ us hl => match us, hl with | [_, _], _ => rfl) (fun vs H Q E h => ?_) (fun f cdv A outer s H vs Q E hr h => ?_)
  · obtain ⟨a, ns, rfl, _⟩ := h; rfl
  · obtain ⟨a, ns, rfl, hscr, q⟩ := h
    refine ⟨_, (pss_cons (ps_set (i := 2) sc_law_drawn.nd rfl (Or.inl rfl) (pe_callB call_abs rfl T.f_abs (by decide +kernel) (pa_cons (pe_cd ((D_cell _).mono (by decide)) hr rfl (pa_cons (pv 0) (pa_cons pe_int pa_nil))) pa_nil)))
      (pss_cons (ps_set (i := 3) sc_law_drawn.nd rfl (Or.inl rfl) (pe_callB (call_min2 rfl) rfl T.f_min (by decide +kernel) (pa_cons (pv 1) (pa_cons (pe_ix ix_list (pe_lst (pa_cons pe_int (pa_cons pe_int (pa_cons pe_int (pa_cons pe_int pa_nil))))) (pe_op op_mod (pe_callTy call_int1 rfl T.f_int (by decide +kernel) (pa_cons (pv 2) pa_nil)) pe_int) (fun _ _ => rfl)) pa_nil))))
      (pss_cons (ps_set (i := 4) sc_law_drawn.nd rfl (Or.inl rfl) (pe_cd ((D_deck _).mono (by decide)) hr rfl (pa_cons (pe_op op_fdiv (pv 2) pe_int) (pa_cons (pv 3) pa_nil))))
      (pss_cons (ps_set (i := 5) sc_law_drawn.nd rfl (Or.inl rfl) (pe_cd ((D_numbers _).mono (by decide)) hr rfl (pa_cons (pv 0) (pa_cons pe_int (pa_cons pe_int pa_nil)))))
      (pss_cons (ps_set (i := 6) sc_law_drawn.nd rfl (Or.inl rfl) (pe_cd ((D_deal _).mono (by decide)) hr rfl (pa_cons (pv 5) (pa_cons (pe_ix ix_tup (pv 4) pe_int (fun _ _ => rfl)) (pa_cons (pe_ix ix_tup (pv 4) pe_int (fun _ _ => rfl)) (pa_cons (pv 3) pa_nil))))))
      (pss_cons (ps_set (i := 7) sc_law_drawn.nd rfl (Or.inl rfl) (pe_op op_sub (pe_op op_mod (pe_op op_fdiv (pv 2) pe_int) (pe_op op_add (pe_ix ix_tup (pv 4) pe_int (fun _ _ => rfl)) pe_int)) pe_int))
      (pss_cons (ps_set (i := 8) sc_law_drawn.nd rfl (Or.inl rfl) (pe_nd (N_Play _) hr rfl (pa_cons (pv 4) (pa_cons (pv 6) (pa_cons (pv 7) (pa_cons (pe_op op_mod (pe_op op_fdiv (pv 2) pe_int) pe_int) pa_nil))))))
      (pss_cons (ps_set (i := 9) sc_law_drawn.nd rfl (Or.inl rfl) (pe_cd ((D_numbers _).mono (by decide)) hr rfl (pa_cons (pv 0) (pa_cons pe_int (pa_cons pe_int pa_nil)))))
      (pss_cons (ps_set (i := 10) sc_law_drawn.nd rfl (Or.inl rfl) (pe_op op_mod (pe_op op_fdiv (pv 2) pe_int) (pe_op op_add (pe_op op_mul pe_int (pv 3)) pe_int)))
      (pss_join (ps_if (pt_cmpR op_eq (pe_op op_mod (pe_op op_fdiv (pv 2) pe_int) pe_int) pe_int (nomark _)) (pss_one (ps_set (i := 10) sc_law_drawn.nd rfl (Or.inl rfl) pe_int)) pss_nil)
      (pss_cons (ps_for PassesOwn.never rfl (pi_range1 rfl T.f_range (pa_cons (pe_callB (call_min2 rfl) rfl T.f_min (by decide +kernel) (pa_cons (pv 10) (pa_cons (pe_callB call_len_seq rfl T.f_len PySem.boot_len (pa_cons (pv 9) pa_nil)) pa_nil))) pa_nil)) (pg_name (i := 11) sc_law_drawn.nd rfl (Or.inl rfl)) (pss_cons (ps_set (i := 12) sc_law_drawn.nd rfl (Or.inl rfl) (pe_md0 (pv 8) G.pc.cls ((G.legal _).mono (by decide)) hr))
      (pss_one (ps_expr (pe_md (pv 8) G.pc.cls ((G.put _).mono (by decide)) hr (pa_cons (pe_ix ix_list (pv 12) (pe_op op_mod (pe_callTy call_int1 rfl T.f_int (by decide +kernel) (pa_cons (pe_ix ix_list (pv 9) (pv 11) (fun _ _ => rfl)) pa_nil)) (pe_callB call_len_seq rfl T.f_len PySem.boot_len (pa_cons (pv 12) pa_nil))) (fun _ _ => rfl)) pa_nil))))))
      (pss_one (ps_ret (pe_tup (pa_cons (pv 4) (pa_cons (pv 8) pa_nil)))))))))))))))), ?_⟩
    refine ⟨_, rfl, a, ns, 0, rfl, hscr, fun i => ⟨i, rfl, ?_⟩⟩
    obtain ⟨D, hD⟩ : ∃ D : Nat, (if i < 0 then -i else i) = (D : Int) := ⟨(if i < 0 then -i else i).toNat, by split <;> omega⟩
    rw [hD]
    clear hD
    obtain ⟨sz, hsz, z1, z3⟩ : ∃ sz : Nat, ([V.int 1, V.int 2, V.int 2, V.int 3] : List V)[D % 4]? = some (V.int (sz : Nat)) ∧ 1 ≤ sz ∧ sz ≤ 3 := by
      have : D % 4 = 0 ∨ D % 4 = 1 ∨ D % 4 = 2 ∨ D % 4 = 3 := by omega
      rcases this with e | e | e | e <;> rw [e]
      · exact ⟨1, rfl, by decide, by decide⟩
      · exact ⟨2, rfl, by decide, by decide⟩
      · exact ⟨2, rfl, by decide, by decide⟩
      · exact ⟨3, rfl, by decide, by decide⟩
    refine ⟨_, rfl, by show (4 : Nat) ≤ sizeLine; decide, fun lq hlq => ?_⟩
    have s1 := Fi.Same.upd_new (Same.refl H) hlq (o := .lst [.int 1, .int 2, .int 2, .int 3])
    have elq : upd H lq (.lst [.int 1, .int 2, .int 2, .int 3]) lq = some (.lst [.int 1, .int 2, .int 2, .int 3]) := upd_same
    generalize upd H lq (.lst [.int 1, .int 2, .int 2, .int 3]) = H1 at *
    refine ⟨_, rfl, .inl ⟨_, rfl, _, _, rfl, rfl, by show (0 : Int) < 4; decide, lq, _, _, _, rfl, rfl, SqL.of elq, at_of (j := D % 4) (by show ((D : Nat) : Int) % 4 = _; omega) hsz, _, _, rfl, ?_⟩⟩
    have emin : (if ((sz : Nat) : Int) < 3 then ((sz : Nat) : Int) else 3) = ((sz : Nat) : Int) := by split <;> omega
    rw [emin]
    have ed4 : ((D : Nat) : Int) / 4 = ((D / 4 : Nat) : Int) := by omega
    refine ⟨_, rfl, _, _, rfl, rfl, ⟨by decide, by decide⟩, _, rfl, D / 4, sz, congrArg (fun z => [V.int z, V.int (sz : Nat)]) ed4, z1, z3, fun S R S1 S3 R1 R13 c4 c16 dk H2 s2 hdk edk => ?_⟩
    have s12 := s1.trans s2
    refine ⟨_, rfl, a, ns, 1, 20, rfl, hscr.same s12, by decide, by decide, fun l hl nl H3 s3 hnl enl => ?_⟩
    have s13 := s12.trans s3
    have edk3 := s3 _ _ edk
    refine ⟨_, rfl, _, rfl, dk, _, _, _, rfl, rfl, SqT.of edk3, at_of (j := 0) rfl rfl, _, rfl, dk, _, _, _, rfl, rfl, SqT.of edk3, at_of (j := 1) rfl rfl, _, rfl, nl, l, S, R, sz, rfl, enl, by omega, S1, by omega, R1, R13, c16, z1, c4, fun hs ok hh H4 s4 hhh ehh => ?_⟩
    have s14 := s13.trans s4
    have edk4 := s4 _ _ edk3
    refine ⟨_, rfl, _, _, rfl, rfl, ⟨by decide, by decide⟩, _, rfl, dk, _, _, _, rfl, rfl, SqT.of edk4, at_of (j := 0) rfl rfl, _, _, rfl, rfl, _, _, rfl, rfl, by show (0 : Int) < (S : Int) + 1; omega, _, _, rfl, rfl, ?_⟩
    dsimp only
    have tr1 : -1 ≤ ((D : Nat) : Int) / 64 % ((S : Int) + 1) - 1 := by
      have := Int.emod_nonneg (((D : Nat) : Int) / 64) (show ((S : Int) + 1) ≠ 0 by omega)
      omega
    have tr2 : ((D : Nat) : Int) / 64 % ((S : Int) + 1) - 1 < (S : Int) := by
      have := Int.emod_lt_of_pos (((D : Nat) : Int) / 64) (show 0 < ((S : Int) + 1) by omega)
      omega
    generalize ((D : Nat) : Int) / 64 % ((S : Int) + 1) - 1 = tr at *
    -- the play
    refine ⟨_, rfl, _, rfl, _, rfl, _, rfl, _, _, rfl, rfl, ⟨by decide, by decide⟩, _, _, rfl, rfl, by show (0 : Int) < 4; decide, fun x dx hx hdx hne => ?_⟩
    have eld : ((D : Nat) : Int) / 256 % 4 = ((D / 256 % 4 : Nat) : Int) := by omega
    have s5 : Same H4 (upd (upd H4 dx (.own x)) x (.ins CG dx [])) := Fi.Same.upd_mine (Fi.Same.upd_new (Same.refl H4) hdx) hx
    have hg : Good S R (4 * sz) ⟨⟨tr, hs, D / 256 % 4, []⟩, 0, 0, [], []⟩ := (ok.wf (Nat.mod_lt _ (by decide))).mpr (by omega)
    refine ⟨x, dx, dk, hh, S, R, sz, tr, hs, D / 256 % 4, congrArg (fun z => [V.ref x, V.ref dk, V.ref hh, V.int tr, V.int z]) eld, upd_same, s5 _ _ edk4, s5 _ _ ehh, ok, tr1, tr2, hg, fun H6 Y m6 pl6 => ⟨rfl, ?_⟩⟩
    obtain ⟨s46, nY⟩ := made hx hdx hne m6
    have s16 := s14.trans s46
    refine ⟨_, rfl, a, ns, 2, 12, rfl, hscr.same s16, by decide, by decide, fun ml hml mm H7 s7 hmm emm => ?_⟩
    have pl7 := pl6.same s7
    have s17 := s16.trans s7
    have edk7 := (s46.trans s7) _ _ edk4
    have c4z : CMul 4 ((sz : Nat) : Int) := .inl ⟨by decide, by decide⟩
    refine ⟨_, rfl, _, _, rfl, rfl, ⟨by decide, by decide⟩, _, rfl, _, _, rfl, rfl, c4z, _, _, rfl, rfl, _, _, rfl, rfl, by show (0 : Int) < 4 * ((sz : Nat) : Int) + 1; omega, ?_⟩
    dsimp only
    obtain ⟨mn, hmn, mle⟩ : ∃ mn : Nat, ((D : Nat) : Int) / 1024 % (4 * ((sz : Nat) : Int) + 1) = (mn : Nat) ∧ mn ≤ 4 * sz := by
      have h1 := Int.emod_nonneg (((D : Nat) : Int) / 1024) (show (4 * ((sz : Nat) : Int) + 1) ≠ 0 by omega)
      have h2 := Int.emod_lt_of_pos (((D : Nat) : Int) / 1024) (show 0 < (4 * ((sz : Nat) : Int) + 1) by omega)
      exact ⟨(((D : Nat) : Int) / 1024 % (4 * ((sz : Nat) : Int) + 1)).toNat, by omega, by omega⟩
    rw [hmn]
    refine ⟨fun σ H' => ∃ many : Nat, many ≤ 4 * sz ∧ H' = H7 ∧ σ = [some (.ref a), some (.int 3), some (.int (D : Nat)), some (.int (sz : Nat)), some (.ref dk), some (.ref nl), some (.ref hh), some (.int tr), some (.ref x), some (.ref mm), some (.int (many : Nat)), none, none], ?_, ?_⟩
    · obtain ⟨e, he⟩ : ∃ e : Int, ((D : Nat) : Int) / 16384 % 2 = e := ⟨_, rfl⟩
      refine ⟨_, rfl, _, _, rfl, rfl, ⟨by decide, by decide⟩, _, _, rfl, rfl, by show (0 : Int) < 2; decide, rfl, decide (V.int (((D : Nat) : Int) / 16384 % 2) = V.int 0), rfl, ite2 (fun z => ?_) fun z => ?_⟩
      · exact ⟨0, Nat.zero_le _, rfl, rfl⟩
      · exact ⟨mn, mle, rfl, rfl⟩
    · rintro σ H' ⟨many, hmany, rfl, rfl⟩
      refine ⟨_, rfl, _, rfl, mm, _, rfl, .inl (SqL.of emm), _, _, rfl, ?_⟩
      obtain ⟨N, hN, N1, N2⟩ : ∃ N : Nat, (if (((nts ml).length : Nat) : Int) < ((many : Nat) : Int) then (((nts ml).length : Nat) : Int) else ((many : Nat) : Int)) = (N : Nat) ∧ N ≤ many ∧ N ≤ ml.length := by
        rw [nts_len]
        by_cases z : ml.length < many
        · exact ⟨ml.length, by rw [if_pos (by omega)], by omega, Nat.le_refl _⟩
        · exact ⟨many, by rw [if_neg (by omega)], Nat.le_refl _, by omega⟩
      refine ⟨(N : Nat), congrArg (fun z => [V.int z]) hN, by omega, by omega, ?_⟩
      have nmm : mm ∉ Y := pl6.new hmm
      refine for_range (fun i σ H'' => ∃ Yi st x11 x12, Mut Y Yi H' H'' ∧ Pl CG x dk Yi S R (4 * sz - i) H'' st ∧ i ≤ N ∧ σ = [some (.ref a), some (.int 3), some (.int (D : Nat)), some (.int (sz : Nat)), some (.ref dk), some (.ref nl), some (.ref hh), some (.int tr), some (.ref x), some (.ref mm), some (.int (many : Nat)), x11, x12]) ⟨Y, _, _, _, .refl _ _, pl7, Nat.zero_le _, rfl⟩ ?_ ?_
      · rintro i σ H'' hi ⟨Yi, st, x11, x12, mi, pli, hiN, rfl⟩
        have hi' : i < N := by omega
        have en : 4 * sz - i = (4 * sz - (i + 1)) + 1 := by omega
        rw [en] at pli
        obtain ⟨_, _, _, _, _, _, hxi⟩ := pli.ob
        refine ⟨_, rfl, x, _, _, rfl, hxi, rfl, x, dk, Yi, S, R, _, st, rfl, pli, fun lp H8 s8 hlp elp => ?_⟩
        have pl8 := pli.same s8
        have emm8 := s8 _ _ (mi.1.at emm nmm)
        have wf := pl8.1.wf
        have hne' := legal_ne (R := R) wf
        have hpos : 0 < (legal R st.p).length := List.length_pos_iff.mpr hne'
        have hil : i < ml.length := by omega
        have hmi := getD_at hil
        obtain ⟨j, hj, hjl⟩ : ∃ j : Nat, ((ml.getD i 0 : Nat) : Int) % (((nts (legal R st.p)).length : Nat) : Int) = (j : Nat) ∧ j < (legal R st.p).length := by
          rw [nts_len]
          exact ⟨ml.getD i 0 % (legal R st.p).length, by omega, Nat.mod_lt _ hpos⟩
        have hcj := getD_at hjl
        refine ⟨_, rfl, x, _, _, rfl, s8 _ _ hxi, rfl, _, rfl, _, rfl, _, rfl, mm, _, _, _, rfl, rfl, SqL.of emm8, at_of (j := i) (by omega) (nts_at hmi), .inl ⟨_, rfl, _, rfl, lp, _, rfl, .inl (SqL.of elp), _, _, rfl, rfl, ?_, lp, _, _, _, rfl, rfl, SqL.of elp, at_of hj (nts_at hcj), ?_⟩⟩
        · rw [nts_len]; omega
        refine ⟨x, dk, Yi, S, R, _, st, _, rfl, pl8, List.mem_of_getElem? hcj, fun H9 Y9 a9 b9 m9 pl9 un => ?_⟩
        exact ⟨Y9, _, _, _, mi.trans ((Mut.same s8).trans m9), pl9, hi', rfl⟩
      · rintro σ H'' ⟨Yi, st, x11, x12, mi, pli, hiN, rfl⟩
        have sN : Same H H'' := fun b u e => mi.1 b u (s17 b u e) (.inl fun z => by
          have := nY b z
          rw [s14 b u e] at this; cases this)
        refine ⟨_, rfl, _, rfl, by show (2 : Nat) ≤ sizeLine; decide, fun tp htp => ?_⟩
        exact q _ tp dk x Yi S R _ st (Fi.Same.upd_new sN htp) upd_same (pli.same (Fi.Same.upd_new (Same.refl H'') htp)) (by omega)
end
end Fi
/-! the law -/
namespace Fi
open PySem PySem.Spec PyProof.Rows L2 PySem.W
theorem lay_nms : ∀ l : List Nat, PyData.canLayAll0 (NestedKey.datas (nms l)) = true
  | [] => rfl
  | n :: l => by
    show PyData.canLayAll0 (NestedKey.data (.num (n : Nat)) :: NestedKey.datas (nms l)) = true
    rw [PyData.canLayAll0, lay_nms l]; rfl
theorem lay_nkey (p : Psn) : (nkey p).data.canLay0 = true := by
  unfold nkey
  simp only [NestedKey.data, NestedKey.datas, PyData.canLay0, PyData.canLayAll0, lay_nms]
  rfl
theorem shaped_nkey (p : Psn) : SeqAt.shaped (nkey p).data = true := by
  unfold SeqAt.shaped
  rw [lay_nkey, Bool.true_and]
  exact decide_eq_true (Nat.le_trans (depth_nkey p) (by decide))
theorem enc_lay : ∀ B : Told, PyData.canLayAll0 (B.map (encP kp vp)) = true ∧ PyData.depthAll (B.map (encP kp vp)) ≤ 9
  | [] => ⟨rfl, Nat.zero_le _⟩
  | b :: B => by
    obtain ⟨h1, h2⟩ := enc_lay B
    have d := depth_enc (vf := vp) (kalike (b :: B)) b (List.mem_cons_self ..)
    rw [List.map_cons]
    refine ⟨?_, ?_⟩
    · rw [PyData.canLayAll0, h1, Bool.and_true]
      show PyData.canLay0 (.tuple [(kp b).data, .int (vp b)]) = true
      unfold kp
      simp only [PyData.canLay0, PyData.canLayAll0, lay_nkey]
      rfl
    · rw [PyData.depthAll]; omega
theorem shaped_enc (B : Told) : SeqAt.shaped (.tuple (B.map (encP kp vp))) = true := by
  obtain ⟨h1, h2⟩ := enc_lay B
  unfold SeqAt.shaped
  rw [Bool.and_eq_true]
  refine ⟨by rw [PyData.canLay0]; exact h1, decide_eq_true ?_⟩
  rw [PyData.depth]; omega
theorem dp_pairs {K : PySem.W.Frag} {H : Hp} : ∀ {ps : List Addr} {B : Told}, PairsH kp vp H ps B → DpAll K H (ps.map V.ref) (B.map (encP kp vp))
  | _, _, .nil => .nil
  | _, _, .cons h t => by
    obtain ⟨ka, e, n⟩ := h
    exact .cons (.tup (SqT.of e) (.cons n.dp (.cons (.int _) .nil))) (dp_pairs t)
theorem eqv_same {d : PyData} (h : SeqAt.shaped d = true) : PyData.eqv d d = true := SeqAt.eqv_refl d (SeqAt.canLay_of_shaped h)
theorem pair_at {H : Hp} {ps : List Addr} {B : Told} (h : PairsH kp vp H ps B) {i : Nat} {a : Addr} (e : ps[i]? = some a) : ∃ b, B[i]? = some b ∧ PairOf kp vp H a b := by
  induction h generalizing i with
  | nil => simp at e
  | @cons x y xs ys hxy t ih =>
    cases i with
    | zero =>
      have e : x = a := Option.some.inj e
      exact ⟨y, rfl, by rw [← e]; exact hxy⟩
    | succ i => exact ih (by simpa using e)
theorem look_take {B : Told} {i : Nat} {b : Psn × Nat} (nd : (B.map (·.1)).Nodup) (h : B[i]? = some b) : glook (B.take i) b.1 = none := by
  cases z : glook (B.take i) b.1 with
  | none => rfl
  | some c =>
    exfalso
    obtain ⟨j, hj, e⟩ := List.mem_take_iff_getElem.mp (glook_mem z)
    obtain ⟨hi, e2⟩ := List.getElem?_eq_some_iff.mp h
    have hp := List.pairwise_iff_getElem.mp nd j i (by rw [List.length_map]; omega) (by rw [List.length_map]; exact hi) (by omega)
    refine hp ?_
    rw [List.getElem_map, List.getElem_map, e, e2]
def tot (R n : Nat) (p : Psn) (i : Nat) : Int := (if 0 < i then Sd R 0 n p else 0) + (if 1 < i then Sd R 1 n p else 0)
theorem tot_succ {R n i : Nat} {p : Psn} (h : i < 2) : tot R n p i + Sd R i n p = tot R n p (i + 1) := by
  have : i = 0 ∨ i = 1 := by omega
  rcases this with e | e <;> subst e <;> simp [tot]
theorem tot_two {R n : Nat} {p : Psn} : tot R n p 2 = left p := by
  have := Sd_sum (R := R) (n := n) (p := p)
  unfold tot
  rw [if_pos (by decide), if_pos (by decide)]
  exact this
def spLaw (K : PySem.W.Frag) : Sp := fun vs H Q _ => ∃ (a : Addr) (ns : List Int), vs = [.ref a] ∧ ScrAt K H a ns ∧ ∀ H', Q (.bl true) H'
section
variable {P : Program} {w : World} {K : PySem.W.Frag} {mg : Str → Option Value} {base : Heap} {CG : Addr}
theorem sc_law : FnScope ["_law_script", "_law_drawn_here", "_law_deck_here", "_law_play", "_law_position", "_law_total", "_law_side", "_law_goal", "_law_paper_here", "_law_told", "_law_entry"] ["_law_script"] (defScope (top 49)) := ⟨rfl, rfl, rfl, by decide +kernel, rfl, by decide +kernel, by decide +kernel⟩
theorem body_law (T : Txt K mg) (G : PlayM P w K mg CG) (D_drawn : ∀ base, Df P w K mg base 6 "_law_drawn" ["_law_script", "_law_most"] (spDrawn K CG)) (D_share : ∀ base, Df P w K mg base 31 "share" ["play", "side"] (spShareF CG))
    (D_paper_for : ∀ base, Df P w K mg base 35 "paper_for" ["play", "side"] (spPaperFor CG)) (D_paper_holds : ∀ base, Df P w K mg base 32 "paper_holds" ["play", "side", "goal", "paper"] (spPaperHolds CG))
    (D_holds : ∀ base, Df P w K mg base 15 "_law_holds" ["_law_deck_here", "_law_position", "_law_side", "_law_goal", "_law_told", "_law_known"] (spHoldsU w)) : BodyOk P w K mg base 59 ["_law_script", "_law_drawn_here", "_law_deck_here", "_law_play", "_law_position", "_law_total", "_law_side", "_law_goal", "_law_paper_here", "_law_told", "_law_entry"] "law" (top 49) (spLaw K) := by
  intro f cdv A outer s H vs Q E hr h
  · obtain ⟨a, ns, rfl, hscr, q⟩ := h
    refine ⟨_, (pss_cons (ps_set (i := 1) sc_law.nd rfl (Or.inl rfl) (pe_cd ((D_drawn _).mono (by decide)) hr rfl (pa_cons (pv 0) (pa_cons pe_int pa_nil))))
      (pss_cons (ps_set (i := 2) sc_law.nd rfl (Or.inl rfl) (pe_ix ix_tup (pv 1) pe_int (fun _ _ => rfl)))
      (pss_cons (ps_set (i := 3) sc_law.nd rfl (Or.inl rfl) (pe_ix ix_tup (pv 1) pe_int (fun _ _ => rfl)))
      (pss_cons (ps_set (i := 4) sc_law.nd rfl (Or.inl rfl) (pe_md0 (pv 3) G.pc.cls ((G.position _).mono (by decide)) hr))
      (pss_cons (ps_set (i := 5) sc_law.nd rfl (Or.inl rfl) pe_int)
      (pss_cons (ps_for PassesOwn.never rfl (pi_range1 rfl T.f_range (pa_cons pe_int pa_nil)) (pg_name (i := 6) sc_law.nd rfl (Or.inl rfl)) (pss_cons (ps_set (i := 7) sc_law.nd rfl (Or.inl rfl) (pe_cd ((D_share _).mono (by decide)) hr rfl (pa_cons (pv 3) (pa_cons (pv 6) pa_nil))))
      (pss_cons (ps_set (i := 5) sc_law.nd rfl (Or.inl rfl) (pe_op op_add (pv 5) (pv 7)))
      (pss_cons (ps_set (i := 8) sc_law.nd rfl (Or.inl rfl) (pe_cd ((D_paper_for _).mono (by decide)) hr rfl (pa_cons (pv 3) (pa_cons (pv 6) pa_nil))))
      (pss_cons (ps_if (PW.pt (pw_or (pt_not (pt_val (pe_callB call_isi rfl T.f_isinstance (by decide +kernel) (pa_cons (pv 8) (pa_cons (pe_bltn (v := .ty "tuple") rfl T.f_tuple (by decide +kernel) rfl) pa_nil))))) (pw_or1 (pt_cmpR (op_neD hr.units) (pv 8) (pe_callTy call_tuple_of rfl T.f_tuple (by decide +kernel) (pa_cons (pe_callB (cr_sortT hr.units (kf := kp) (vf := vp)) rfl T.f_sorted (by decide +kernel) (pa_cons (pv 8) pa_nil)) pa_nil)) (nomark _))))) (pss_one (ps_ret pe_bl)) pss_nil)
      (pss_cons (ps_set (i := 9) sc_law.nd rfl (Or.inl rfl) pe_nnew)
      (pss_cons (ps_for PassesOwn.never rfl (pi_tup (pv 8)) (pg_name (i := 10) sc_law.nd rfl (Or.inl rfl)) (pss_one (ps_nput hr.units (pv 9) (pe_ix ix_tup (pv 10) pe_int (fun _ _ => rfl)) (pe_ix ix_tup (pv 10) pe_int (fun _ _ => rfl)) rfl)))
      (pss_cons (ps_if (PW.pt (pw_or (pt_cmpR op_ne (pe_callB call_lenN rfl T.f_len PySem.boot_len (pa_cons (pv 9) pa_nil)) (pe_callB call_len_seq rfl T.f_len PySem.boot_len (pa_cons (pv 8) pa_nil)) (nomark _)) (pw_or (pt_not (pt_val (pe_cd ((D_paper_holds _).mono (by decide)) hr rfl (pa_cons (pv 3) (pa_cons (pv 6) (pa_cons (pv 7) (pa_cons (pv 8) pa_nil))))))) (pw_or1 (pt_val (pe_cd ((D_paper_holds _).mono (by decide)) hr rfl (pa_cons (pv 3) (pa_cons (pv 6) (pa_cons (pe_op op_add (pv 7) pe_int) (pa_cons (pv 8) pa_nil)))))))))) (pss_one (ps_ret pe_bl)) pss_nil)
      (pss_one (ps_if (PW.pt (pw_or (pt_not (pt_val (pe_cd ((D_holds _).mono (by decide)) hr rfl (pa_cons (pv 2) (pa_cons (pv 4) (pa_cons (pv 6) (pa_cons (pv 7) (pa_cons (pv 9) (pa_cons pe_nnew pa_nil))))))))) (pw_or1 (pt_val (pe_cd ((D_holds _).mono (by decide)) hr rfl (pa_cons (pv 2) (pa_cons (pv 4) (pa_cons (pv 6) (pa_cons (pe_op op_add (pv 7) pe_int) (pa_cons (pv 9) (pa_cons pe_nnew pa_nil))))))))))) (pss_one (ps_ret pe_bl)) pss_nil))))))))))
      (pss_one (ps_ret (pe_and (pe_cmpR op_eq (pv 5) (pe_md0 (pv 3) G.pc.cls ((G.left _).mono (by decide)) hr) (nomark _)) (pe_one (pe_cmpR (op_eqD hr.units) (pe_md0 (pv 3) G.pc.cls ((G.position _).mono (by decide)) hr) (pv 4) (nomark _)))))))))))), ?_⟩
    refine ⟨_, rfl, a, ns, rfl, hscr, fun H1 tp dk x Y S R n st s1 etp pl n12 => ?_⟩
    refine ⟨_, rfl, tp, _, _, _, rfl, rfl, SqT.of etp, at_of (j := 0) rfl rfl, ?_⟩
    refine ⟨_, rfl, tp, _, _, _, rfl, rfl, SqT.of etp, at_of (j := 1) rfl rfl, ?_⟩
    obtain ⟨_, _, _, _, _, _, hx⟩ := pl.ob
    refine ⟨_, rfl, x, _, _, rfl, hx, rfl, x, dk, Y, S, R, n, st, rfl, pl, fun b H2 s2 hb pb => ?_⟩
    have pl2 := pl.same s2
    have hx2 := s2 _ _ hx
    refine ⟨_, rfl, by decide, by decide, ?_⟩
    refine for_range (fun i σ H' => ∃ y6 y7 y8 y9 y10, Same H2 H' ∧ σ = [some (.ref a), some (.ref tp), some (.ref dk), some (.ref x), some (.ref b), some (.int (tot R n st.p i)), y6, y7, y8, y9, y10]) ⟨_, _, _, _, _, Same.refl H2, rfl⟩ ?_ ?_
    · rintro i σ H' hi ⟨y6, y7, y8, y9, y10, sm, rfl⟩
      have hi2 : i < 2 := by
        have : ((2 : Int)).toNat = 2 := rfl
        omega
      have ei : (0 : Int) + (i : Nat) = (i : Nat) := by omega
      rw [ei]
      have r1 := pl.1.r1
      have wf := pl.1.wf
      have plA := pl2.same sm
      refine ⟨_, rfl, _, rfl, x, dk, Y, S, R, n, st, i, rfl, plA, n12, hi2, fun H3 s3 => ?_⟩
      refine ⟨_, rfl, _, rfl, _, _, rfl, rfl, ?_⟩
      have pl3 := plA.same s3
      refine ⟨_, rfl, _, rfl, x, dk, Y, i, S, R, n, st, rfl, pl3, n12, hi2, fun H4 pp t s4 pap tok hsz hcov => ?_⟩
      have pl4 := pl3.same s4
      generalize hB : t.mergeSort leP = B at *
      have hBB : B.mergeSort leP = B := by rw [← hB]; exact sort_idem t
      obtain ⟨ob, ps, ep, pt, pp4⟩ := id pap
      refine ⟨_, rfl, .ref pp, .ty "tuple", .type "tuple", .type "tuple", true, rfl, .ty _, .fTuple ep, kit_ty (by decide +kernel), true, rfl, iteF ?_⟩
      refine ⟨_, rfl, _, rfl, pp, ps, B, rfl, .inl (.inr ⟨ob, ep⟩), pp4, kalike B, fun l ps' hl pp5 => ?_⟩
      rw [hBB] at pp5
      have s5 := Fi.Same.upd_new (Same.refl H4) hl (o := .lst (ps'.map V.ref))
      have el : upd H4 l (.lst (ps'.map V.ref)) l = some (.lst (ps'.map V.ref)) := upd_same
      have pp5 : PairsH kp vp (upd H4 l (.lst (ps'.map V.ref))) ps' B := pp5.mono (fun a xs e => s5 a _ e)
      generalize upd H4 l (.lst (ps'.map V.ref)) = H5 at *
      refine ⟨l, _, rfl, .inl ⟨SqL.of el, fun t2 ht2 => ?_⟩⟩
      have s6 := Fi.Same.upd_new (Same.refl H5) ht2 (o := .tup (ps'.map V.ref))
      have e6 : upd H5 t2 (.tup (ps'.map V.ref)) t2 = some (.tup (ps'.map V.ref)) := upd_same
      generalize upd H5 t2 (.tup (ps'.map V.ref)) = H6 at *
      have s46 := s5.trans s6
      refine ⟨_, _, .tup (.inl (.inr ⟨ob, s46 _ _ ep⟩)) (dp_pairs (pp4.mono (fun a xs e => s46 a _ e))), .tup (SqT.of e6) (dp_pairs (pp5.mono (fun a xs e => s6 a _ e))), shaped_enc B, shaped_enc B, false, ?_, iteF ?_⟩
      · rw [eqv_same (shaped_enc B)]; rfl
      have hT : hold R i (tf B) n st.p (Sd R i n st.p) = true := hold_cov r1 hi2 wf hcov (Int.le_refl _)
      have hF : hold R i (tf B) n st.p (Sd R i n st.p + 1) = false := by
        cases z : hold R i (tf B) n st.p (Sd R i n st.p + 1) with
        | false => rfl
        | true =>
          have := hold_max r1 hi2 wf z
          omega
      have e7 : V.int (tot R n st.p i + Sd R i n st.p) = V.int (tot R n st.p (i + 1)) := by rw [tot_succ hi2]
      dsimp only
      rw [e7]
      clear e7
      intro td o htd dtd
      have s67 := Fi.Same.upd_new (Same.refl H6) htd (o := o)
      generalize upd H6 td o = H7 at *
      have s47 := s46.trans s67
      have s27 : Same H2 H7 := sm.trans (s3.trans (s4.trans s47))
      have pl7 := pl2.same s27
      have ntd : td ∉ Y := (pl4.same s46).new htd
      have ep7 := s47 _ _ ep
      refine ⟨_, rfl, pp, rfl, ⟨_, .inl (.inr ⟨ob, ep7⟩)⟩, ?_⟩
      refine for_tup (xs := ps.map V.ref) (fun j σ H' => Kp [td] H7 H' ∧ DN w H' td (tdict (B.take j)) ∧ ∃ y10, σ = [some (.ref a), some (.ref tp), some (.ref dk), some (.ref x), some (.ref b), some (.int (tot R n st.p (i + 1))), some (.int (i : Nat)), some (.int (Sd R i n st.p)), some (.ref pp), some (.ref td), y10]) ⟨.refl _ _, dtd, _, rfl⟩ ?_ ?_ ?_
      · rintro j σ H' hj ⟨kj, dj, z10, rfl⟩
        exact .inl (.inr ⟨ob, kj _ _ ep7 (.inr trivial)⟩)
      · rintro j v σ H' hj ⟨kj, dj, z10, rfl⟩
        rw [List.getElem?_map] at hj
        obtain ⟨pa, hpa, rfl⟩ := Option.map_eq_some_iff.mp hj
        obtain ⟨b0, hb0, ka, epa, nka⟩ := pair_at pp4 hpa
        have tkj : TK H4 H' := fun c xs e => kj.tk c xs (s47 _ _ e)
        have epa' := tkj _ _ epa
        have hjl : j < B.length := (List.getElem?_eq_some_iff.mp hb0).1
        refine ⟨_, rfl, pa, _, _, _, rfl, rfl, SqT.of epa', at_of (j := 1) rfl rfl, _, rfl, _, rfl, pa, _, _, _, rfl, rfl, SqT.of epa', at_of (j := 0) rfl rfl, td, ka, kp b0, _, rfl, ⟨rfl, nka.mono tkj, kp_depth b0⟩, dj, ?_, fun o2 d2 => ?_⟩
        · unfold tdict
          rw [gd_len, List.length_take]
          omega
        · obtain ⟨φ, etd⟩ := dj.is
          refine ⟨kj.chg etd not_imm_ext (.inl (by simp)), ?_, _, rfl⟩
          have e : putK (tdict (B.take j)) (kp b0) (V.int (vp b0)) = tdict (B.take (j + 1)) := by
            have hv : valV (tdict (B.take j)) (kp b0) = none := by
              have := gd_val (vf := nv) (fun _ _ => nkey_inj) b0.1 (B.take j)
              rw [look_take tok.1 hb0] at this
              exact this
            rw [putK_new _ hv]
            unfold tdict gd
            rw [List.take_add_one, hb0, List.map_append]
            rfl
          rw [← e]
          exact d2
      · rintro σ Hk ⟨kk, dk', z10, rfl⟩
        rw [List.length_map, len_paired pp4, List.take_length] at dk'
        have s6k : Same H6 Hk := fun c u e => kk c u (s67 c u e) (.inl (by
          rw [List.mem_singleton]
          rintro rfl
          rw [htd] at e; cases e))
        have s2k : Same H2 Hk := sm.trans (s3.trans (s4.trans (s46.trans s6k)))
        have plk := pl2.same s2k
        have s4k := s46.trans s6k
        have papk := pap.same s4k
        have epk := s4k _ _ ep
        refine ⟨_, rfl, td, _, rfl, dk', _, rfl, pp, _, rfl, .inr (.inl (.inr ⟨ob, epk⟩)), rfl, false, b_neF ?_, iteF ?_⟩
        · unfold tdict
          rw [gd_len, List.length_map, len_paired pp4]
        refine ⟨_, rfl, _, rfl, _, rfl, _, rfl, x, dk, pp, Y, i, S, R, n, st, _, B, rfl, plk, n12, hi2, papk, tok.1, fun H8 s8 => ⟨true, congrArg V.bl hT, iteF ?_⟩⟩
        have s2_8 := s2k.trans s8
        refine ⟨_, rfl, _, rfl, _, rfl, _, _, rfl, rfl, _, rfl, x, dk, pp, Y, i, S, R, n, st, _, B, rfl, plk.same s8, n12, hi2, papk.same s8, tok.1, fun H9 s9 => ⟨false, congrArg V.bl hF, iteF ?_⟩⟩
        have s29 := s2_8.trans s9
        have sk9 := s8.trans s9
        have d9 := dk'.keep (fun c xs e => sk9 c _ e) (fun o e => sk9 _ _ e)
        have hB : Bn n ≤ 7735 := by rw [← Bn_12]; exact Bn_mono n12
        -- the law's own checker, at a goal
        have own : ∀ (H10 : Hp) (kn : Addr) (o : HO), Same H9 H10 → H10 kn = none → ∀ {H11 : Hp}, Kp [kn] (upd H10 kn o) H11 → Same H9 H11 := fun H10 kn o s10 hkn H11 k11 c u e => k11 c u ((Fi.Same.upd_new (Same.refl H10) hkn) _ _ (s10 c u e)) (.inl (by
          rw [List.mem_singleton]
          rintro rfl
          have := s10 _ _ e
          rw [hkn] at this; cases this))
        refine ⟨_, rfl, _, rfl, _, rfl, _, rfl, _, rfl, fun kn o9 hkn dkn => ?_⟩
        have s9n := Fi.Same.upd_new (Same.refl H9) hkn (o := o9)
        have nkt : td ≠ kn := by
          obtain ⟨_, e⟩ := d9.is
          exact fun z => by rw [z, hkn] at e; cases e
        refine ⟨n, n12, dk, b, td, kn, i, S, R, st.p, _, B, [], rfl, s9n _ _ (s29 _ _ pl2.2.1), pb.mono (fun c xs e => s9n _ _ (s29 _ _ e)), r1, pl.1.r13, wf, hi2, d9.keep (fun c xs e => s9n c _ e) (fun o e => s9n _ _ e), dkn, nkt, (fun e he => nomatch he), by show 0 + Bn n ≤ 1000000; omega, fun H11 k' kp' _ _ _ => ⟨true, congrArg V.bl hT, iteF ?_⟩⟩
        have s9_11 : Same H9 H11 := own H9 kn o9 (Same.refl H9) hkn kp'
        have d11 := d9.keep (fun c xs e => s9_11 c _ e) (fun o e => s9_11 _ _ e)
        refine ⟨_, rfl, _, rfl, _, rfl, _, rfl, _, _, rfl, rfl, _, rfl, fun kn2 o11 hkn2 dkn2 => ?_⟩
        have s11n := Fi.Same.upd_new (Same.refl H11) hkn2 (o := o11)
        have nkt2 : td ≠ kn2 := by
          obtain ⟨_, e⟩ := d11.is
          exact fun z => by rw [z, hkn2] at e; cases e
        have s2_11 := s29.trans s9_11
        refine ⟨n, n12, dk, b, td, kn2, i, S, R, st.p, _, B, [], rfl, s11n _ _ (s2_11 _ _ pl2.2.1), pb.mono (fun c xs e => s11n _ _ (s2_11 _ _ e)), r1, pl.1.r13, wf, hi2, d11.keep (fun c xs e => s11n c _ e) (fun o e => s11n _ _ e), dkn2, nkt2, (fun e he => nomatch he), by show 0 + Bn n ≤ 1000000; omega, fun H12 k2 kp2 _ _ _ => ⟨false, congrArg V.bl hF, iteF ?_⟩⟩
        have s9_12 : Same H9 H12 := own H11 kn2 o11 s9_11 hkn2 kp2
        exact ⟨_, _, _, _, _, s29.trans s9_12, rfl⟩
    · rintro σ H' ⟨y6, y7, y8, y9, y10, sm, rfl⟩
      have plE := pl2.same sm
      have hxE := sm _ _ hx2
      refine ⟨_, rfl, _, rfl, x, _, _, rfl, hxE, rfl, x, dk, Y, S, R, n, st, rfl, plE, fun H3 s3 => ?_⟩
      have e2 : tot R n st.p ((2 : Int)).toNat = left st.p := tot_two
      rw [e2]
      refine ⟨rfl, true, b_eqT rfl, iteT ?_⟩
      have pl3 := plE.same s3
      refine ⟨_, rfl, x, _, _, rfl, s3 _ _ hxE, rfl, x, dk, Y, S, R, n, st, rfl, pl3, fun b2 H4 s4 hb2 pb2 => ?_⟩
      have pb4 := pb.mono (fun a xs e => (sm.trans (s3.trans s4)) a _ e)
      refine ⟨_, rfl, _, _, pb2.nv.dp, pb4.nv.dp, shaped_nkey _, shaped_nkey _, ?_⟩
      rw [eqv_same (shaped_nkey _)]
      exact q H4
end
end Fi
/-! the names the head knows -/
namespace Fi
open PySem PySem.Spec PyProof.Rows L2
def d_check_deck : He.DefD := ⟨("check_deck", none), "check_deck", "check_deck", defArgs (top 12), defBody (top 12), defScope (top 12), [], []⟩
def d_suit_of : He.DefD := ⟨("suit_of", none), "suit_of", "suit_of", defArgs (top 13), defBody (top 13), defScope (top 13), [], []⟩
def d_cards_of : He.DefD := ⟨("cards_of", none), "cards_of", "cards_of", defArgs (top 14), defBody (top 14), defScope (top 14), [], []⟩
def d_count_cards : He.DefD := ⟨("count_cards", none), "count_cards", "count_cards", defArgs (top 15), defBody (top 15), defScope (top 15), [], []⟩
def d_of_suit : He.DefD := ⟨("of_suit", none), "of_suit", "of_suit", defArgs (top 16), defBody (top 16), defScope (top 16), [], []⟩
def d_side_of : He.DefD := ⟨("side_of", none), "side_of", "side_of", defArgs (top 18), defBody (top 18), defScope (top 18), [], []⟩
def d_check_deal : He.DefD := ⟨("check_deal", none), "check_deal", "check_deal", defArgs (top 19), defBody (top 19), defScope (top 19), [], []⟩
def d_winner_of : He.DefD := ⟨("winner_of", none), "winner_of", "winner_of", defArgs (top 21), defBody (top 21), defScope (top 21), [], []⟩
def d_Play__init : He.DefD := ⟨("Play", some "__init__"), "__init__", "Play.__init__", defArgs (inClass (top 22) 0), defBody (inClass (top 22) 0), defScope (inClass (top 22) 0), [], []⟩
def d_Play_begin : He.DefD := ⟨("Play", some "begin"), "begin", "Play.begin", defArgs (inClass (top 22) 1), defBody (inClass (top 22) 1), defScope (inClass (top 22) 1), [], []⟩
def d_Play_deck : He.DefD := ⟨("Play", some "deck"), "deck", "Play.deck", defArgs (inClass (top 22) 2), defBody (inClass (top 22) 2), defScope (inClass (top 22) 2), [], []⟩
def d_Play_is_over : He.DefD := ⟨("Play", some "is_over"), "is_over", "Play.is_over", defArgs (inClass (top 22) 7), defBody (inClass (top 22) 7), defScope (inClass (top 22) 7), [], []⟩
def d_Play_mover : He.DefD := ⟨("Play", some "mover"), "mover", "Play.mover", defArgs (inClass (top 22) 8), defBody (inClass (top 22) 8), defScope (inClass (top 22) 8), [], []⟩
def d_Play_turn : He.DefD := ⟨("Play", some "turn"), "turn", "Play.turn", defArgs (inClass (top 22) 9), defBody (inClass (top 22) 9), defScope (inClass (top 22) 9), [], []⟩
def d_Play_legal : He.DefD := ⟨("Play", some "legal"), "legal", "Play.legal", defArgs (inClass (top 22) 10), defBody (inClass (top 22) 10), defScope (inClass (top 22) 10), [], []⟩
def d_Play_put : He.DefD := ⟨("Play", some "put"), "put", "Play.put", defArgs (inClass (top 22) 11), defBody (inClass (top 22) 11), defScope (inClass (top 22) 11), [], []⟩
def d_Play_take_back : He.DefD := ⟨("Play", some "take_back"), "take_back", "Play.take_back", defArgs (inClass (top 22) 12), defBody (inClass (top 22) 12), defScope (inClass (top 22) 12), [], []⟩
def d_Play_tricks : He.DefD := ⟨("Play", some "tricks"), "tricks", "Play.tricks", defArgs (inClass (top 22) 14), defBody (inClass (top 22) 14), defScope (inClass (top 22) 14), [], []⟩
def d_Play_left : He.DefD := ⟨("Play", some "left"), "left", "Play.left", defArgs (inClass (top 22) 15), defBody (inClass (top 22) 15), defScope (inClass (top 22) 15), [], []⟩
def d_Play_position : He.DefD := ⟨("Play", some "position"), "position", "Play.position", defArgs (inClass (top 22) 16), defBody (inClass (top 22) 16), defScope (inClass (top 22) 16), [], []⟩
def d_Later__init : He.DefD := ⟨("Later", some "__init__"), "__init__", "Later.__init__", defArgs (inClass (top 23) 0), defBody (inClass (top 23) 0), defScope (inClass (top 23) 0), [], []⟩
def d_play_at : He.DefD := ⟨("play_at", none), "play_at", "play_at", defArgs (top 24), defBody (top 24), defScope (top 24), [], []⟩
def d_Solver__init : He.DefD := ⟨("Solver", some "__init__"), "__init__", "Solver.__init__", defArgs (inClass (top 26) 0), defBody (inClass (top 26) 0), defScope (inClass (top 26) 0), [], []⟩
def d_Solver_share : He.DefD := ⟨("Solver", some "share"), "share", "Solver.share", defArgs (inClass (top 26) 1), defBody (inClass (top 26) 1), defScope (inClass (top 26) 1), [], []⟩
def d_Solver_after : He.DefD := ⟨("Solver", some "after"), "after", "Solver.after", defArgs (inClass (top 26) 2), defBody (inClass (top 26) 2), defScope (inClass (top 26) 2), [], []⟩
def d_share : He.DefD := ⟨("share", none), "share", "share", defArgs (top 27), defBody (top 27), defScope (top 27), [], []⟩
def d_shares_after : He.DefD := ⟨("shares_after", none), "shares_after", "shares_after", defArgs (top 28), defBody (top 28), defScope (top 28), [], []⟩
def d_best_of : He.DefD := ⟨("best_of", none), "best_of", "best_of", defArgs (top 29), defBody (top 29), defScope (top 29), [], []⟩
def d_Checker__init : He.DefD := ⟨("Checker", some "__init__"), "__init__", "Checker.__init__", defArgs (inClass (top 31) 0), defBody (inClass (top 31) 0), defScope (inClass (top 31) 0), [], []⟩
def d_Checker_holds : He.DefD := ⟨("Checker", some "holds"), "holds", "Checker.holds", defArgs (inClass (top 31) 1), defBody (inClass (top 31) 1), defScope (inClass (top 31) 1), [], []⟩
def d_Checker_found : He.DefD := ⟨("Checker", some "found"), "found", "Checker.found", defArgs (inClass (top 31) 2), defBody (inClass (top 31) 2), defScope (inClass (top 31) 2), [], []⟩
def d_checked : He.DefD := ⟨("checked", none), "checked", "checked", defArgs (top 32), defBody (top 32), defScope (top 32), [], []⟩
def d_paper_holds : He.DefD := ⟨("paper_holds", none), "paper_holds", "paper_holds", defArgs (top 33), defBody (top 33), defScope (top 33), [], []⟩
def d_PaperMaker__init : He.DefD := ⟨("PaperMaker", some "__init__"), "__init__", "PaperMaker.__init__", defArgs (inClass (top 34) 0), defBody (inClass (top 34) 0), defScope (inClass (top 34) 0), [], []⟩
def d_PaperMaker_visit : He.DefD := ⟨("PaperMaker", some "visit"), "visit", "PaperMaker.visit", defArgs (inClass (top 34) 1), defBody (inClass (top 34) 1), defScope (inClass (top 34) 1), [], []⟩
def d_paper_for : He.DefD := ⟨("paper_for", none), "paper_for", "paper_for", defArgs (top 35), defBody (top 35), defScope (top 35), [], []⟩
def d_law_cell : He.DefD := ⟨("_law_cell", none), "_law_cell", "_law_cell", defArgs (top 37), defBody (top 37), defScope (top 37), [], []⟩
def d_law_numbers : He.DefD := ⟨("_law_numbers", none), "_law_numbers", "_law_numbers", defArgs (top 38), defBody (top 38), defScope (top 38), [], []⟩
def d_law_deal : He.DefD := ⟨("_law_deal", none), "_law_deal", "_law_deal", defArgs (top 39), defBody (top 39), defScope (top 39), [], []⟩
def d_law_deck : He.DefD := ⟨("_law_deck", none), "_law_deck", "_law_deck", defArgs (top 40), defBody (top 40), defScope (top 40), [], []⟩
def d_law_drawn : He.DefD := ⟨("_law_drawn", none), "_law_drawn", "_law_drawn", defArgs (top 41), defBody (top 41), defScope (top 41), [], []⟩
def d_law_cards : He.DefD := ⟨("_law_cards", none), "_law_cards", "_law_cards", defArgs (top 42), defBody (top 42), defScope (top 42), [], []⟩
def d_law_legal : He.DefD := ⟨("_law_legal", none), "_law_legal", "_law_legal", defArgs (top 43), defBody (top 43), defScope (top 43), [], []⟩
def d_law_winner : He.DefD := ⟨("_law_winner", none), "_law_winner", "_law_winner", defArgs (top 44), defBody (top 44), defScope (top 44), [], []⟩
def d_law_next : He.DefD := ⟨("_law_next", none), "_law_next", "_law_next", defArgs (top 45), defBody (top 45), defScope (top 45), [], []⟩
def d_law_holds : He.DefD := ⟨("_law_holds", none), "_law_holds", "_law_holds", defArgs (top 47), defBody (top 47), defScope (top 47), [], []⟩
def d_law : He.DefD := ⟨("law", none), "law", "law", defArgs (top 49), defBody (top 49), defScope (top 49), [], []⟩
def dl_begin : He.DefD := ⟨("Later", some "begin"), "begin", "Play.begin", defArgs (inClass (top 22) 1), defBody (inClass (top 22) 1), defScope (inClass (top 22) 1), [], []⟩
def dl_deck : He.DefD := ⟨("Later", some "deck"), "deck", "Play.deck", defArgs (inClass (top 22) 2), defBody (inClass (top 22) 2), defScope (inClass (top 22) 2), [], []⟩
def dl_is_over : He.DefD := ⟨("Later", some "is_over"), "is_over", "Play.is_over", defArgs (inClass (top 22) 7), defBody (inClass (top 22) 7), defScope (inClass (top 22) 7), [], []⟩
def dl_mover : He.DefD := ⟨("Later", some "mover"), "mover", "Play.mover", defArgs (inClass (top 22) 8), defBody (inClass (top 22) 8), defScope (inClass (top 22) 8), [], []⟩
def dl_turn : He.DefD := ⟨("Later", some "turn"), "turn", "Play.turn", defArgs (inClass (top 22) 9), defBody (inClass (top 22) 9), defScope (inClass (top 22) 9), [], []⟩
def dl_legal : He.DefD := ⟨("Later", some "legal"), "legal", "Play.legal", defArgs (inClass (top 22) 10), defBody (inClass (top 22) 10), defScope (inClass (top 22) 10), [], []⟩
def dl_put : He.DefD := ⟨("Later", some "put"), "put", "Play.put", defArgs (inClass (top 22) 11), defBody (inClass (top 22) 11), defScope (inClass (top 22) 11), [], []⟩
def dl_take_back : He.DefD := ⟨("Later", some "take_back"), "take_back", "Play.take_back", defArgs (inClass (top 22) 12), defBody (inClass (top 22) 12), defScope (inClass (top 22) 12), [], []⟩
def dl_tricks : He.DefD := ⟨("Later", some "tricks"), "tricks", "Play.tricks", defArgs (inClass (top 22) 14), defBody (inClass (top 22) 14), defScope (inClass (top 22) 14), [], []⟩
def dl_left : He.DefD := ⟨("Later", some "left"), "left", "Play.left", defArgs (inClass (top 22) 15), defBody (inClass (top 22) 15), defScope (inClass (top 22) 15), [], []⟩
def dl_position : He.DefD := ⟨("Later", some "position"), "position", "Play.position", defArgs (inClass (top 22) 16), defBody (inClass (top 22) 16), defScope (inClass (top 22) 16), [], []⟩
def fn_0 : List He.DefD := [d_check_deck, d_suit_of, d_cards_of, d_count_cards, d_of_suit, d_side_of, d_check_deal, d_winner_of, d_Play__init, d_Play_begin, d_Play_deck, d_Play_is_over, d_Play_mover, d_Play_turn, d_Play_legal, d_Play_put, d_Play_take_back, d_Play_tricks, d_Play_left, d_Play_position, d_Later__init, d_play_at, d_Solver__init, d_Solver_share, d_Solver_after, d_share, d_shares_after, d_best_of, d_Checker__init, d_Checker_holds]
def fn_1 : List He.DefD := [d_Checker_found, d_checked, d_paper_holds, d_PaperMaker__init, d_PaperMaker_visit, d_paper_for, d_law_cell, d_law_numbers, d_law_deal, d_law_deck, d_law_drawn, d_law_cards, d_law_legal, d_law_winner, d_law_next, d_law_holds, d_law, dl_begin, dl_deck, dl_is_over, dl_mover, dl_turn, dl_legal, dl_put, dl_take_back, dl_tricks, dl_left, dl_position]
def fn : List He.DefD := fn_0 ++ fn_1
def fa_0 : List He.Fa := [.glo "check_deck", .glo "suit_of", .glo "cards_of", .glo "count_cards", .glo "of_suit", .glo "side_of", .glo "check_deal", .glo "winner_of", .glo "play_at", .glo "share", .glo "shares_after", .glo "best_of", .glo "checked", .glo "paper_holds", .glo "paper_for", .glo "_law_cell", .glo "_law_numbers", .glo "_law_deal", .glo "_law_deck", .glo "_law_drawn", .glo "_law_cards", .glo "_law_legal", .glo "_law_winner", .glo "_law_next", .glo "_law_holds", .glo "law", .glo "Play", .cls "Play", .mkr "Play", .noat "Play" "_deck"]
def fa_1 : List He.Fa := [.noat "Play" "_trump", .noat "Play" "_hands", .noat "Play" "_leader", .noat "Play" "_led", .noat "Play" "_won", .noat "Play" "_history", .noat "Play" "_before", .meth "Play" "begin", .meth "Play" "deck", .meth "Play" "is_over", .meth "Play" "mover", .meth "Play" "turn", .meth "Play" "legal", .meth "Play" "put", .meth "Play" "take_back", .meth "Play" "tricks", .meth "Play" "left", .meth "Play" "position", .glo "Solver", .cls "Solver", .mkr "Solver", .noat "Solver" "deck", .noat "Solver" "known", .meth "Solver" "share", .meth "Solver" "after", .glo "Checker", .cls "Checker", .mkr "Checker", .noat "Checker" "side", .noat "Checker" "told"]
def fa_2 : List He.Fa := [.noat "Checker" "known", .noat "Checker" "used", .meth "Checker" "holds", .meth "Checker" "found", .glo "PaperMaker", .cls "PaperMaker", .mkr "PaperMaker", .noat "PaperMaker" "side", .noat "PaperMaker" "solver", .noat "PaperMaker" "told", .noat "PaperMaker" "seen", .meth "PaperMaker" "visit", .glo "Later", .cls "Later", .mkr "Later", .noat "Later" "_deck", .noat "Later" "_trump", .noat "Later" "_hands", .noat "Later" "_leader", .noat "Later" "_led", .noat "Later" "_won", .noat "Later" "_history", .noat "Later" "_before", .meth "Later" "begin", .meth "Later" "deck", .meth "Later" "is_over", .meth "Later" "mover", .meth "Later" "turn", .meth "Later" "legal", .meth "Later" "put"]
def fa_3 : List He.Fa := [.meth "Later" "take_back", .meth "Later" "tricks", .meth "Later" "left", .meth "Later" "position", .int "MAX_SUITS" 4, .int "MAX_RANKS" 13, .free "len", .free "sorted", .free "list", .free "tuple", .free "max", .free "min", .free "dict", .free "range", .free "enumerate", .free "abs", .free "int", .free "isinstance"]
def fa : List He.Fa := fa_0 ++ fa_1 ++ fa_2 ++ fa_3
def lo_0 : List PySem.Str := ["_wall", "FinesseError", "InvalidDeck", "InvalidDeal", "InvalidTrump", "PlayOver", "IllegalCard", "NothingPut", "MAX_SUITS", "MAX_RANKS", "check_deck", "suit_of", "cards_of", "count_cards", "of_suit", "side_of", "check_deal", "winner_of", "Play", "Later", "play_at", "Solver", "share", "shares_after", "best_of", "Checker", "checked", "paper_holds", "PaperMaker", "paper_for"]
def lo_1 : List PySem.Str := ["_law_cell", "_law_numbers", "_law_deal", "_law_deck", "_law_drawn", "_law_cards", "_law_legal", "_law_winner", "_law_next", "_law_left", "_law_holds", "_law_paper"]
def lo : List PySem.Str := lo_0 ++ lo_1
end Fi
/-! all together: what the head says of the names, then every def and method, up to the law -/
namespace Fi
open PySem PySem.Spec PyProof.Rows L2
section
variable {K : PySem.W.Frag} {mg : Str → Option Value} {h : Heap}
theorem txt_of (c : He.SaysD fa fn K) (X : K.In h) (G : h.Ns mainGlobals mg) : Txt K mg :=
  ⟨He.free_ok X G (c.fact 96), He.free_ok X G (c.fact 97), He.free_ok X G (c.fact 98), He.free_ok X G (c.fact 99), He.free_ok X G (c.fact 100), He.free_ok X G (c.fact 101), He.free_ok X G (c.fact 102), He.free_ok X G (c.fact 103), He.free_ok X G (c.fact 104), He.free_ok X G (c.fact 105), He.free_ok X G (c.fact 106), He.free_ok X G (c.fact 107), He.int_ok X G (c.fact 94), He.int_ok X G (c.fact 95)⟩
theorem plc_Play (c : He.SaysD fa fn K) : PlC K (He.ga K "Play") :=
  ⟨He.cls_ok (c.fact 27), He.noat_ok (c.fact 29), He.noat_ok (c.fact 30), He.noat_ok (c.fact 32), He.noat_ok (c.fact 31), He.noat_ok (c.fact 33), He.noat_ok (c.fact 34), He.noat_ok (c.fact 35), He.noat_ok (c.fact 36)⟩
theorem plc_Later (c : He.SaysD fa fn K) : PlC K (He.ga K "Later") :=
  ⟨He.cls_ok (c.fact 73), He.noat_ok (c.fact 75), He.noat_ok (c.fact 76), He.noat_ok (c.fact 78), He.noat_ok (c.fact 77), He.noat_ok (c.fact 79), He.noat_ok (c.fact 80), He.noat_ok (c.fact 81), He.noat_ok (c.fact 82)⟩
theorem soc (c : He.SaysD fa fn K) : SoC K (He.ga K "Solver") :=
  ⟨He.cls_ok (c.fact 49), He.noat_ok (c.fact 51), He.noat_ok (c.fact 52)⟩
theorem ckc (c : He.SaysD fa fn K) : CkC K (He.ga K "Checker") :=
  ⟨He.cls_ok (c.fact 56), He.noat_ok (c.fact 58), He.noat_ok (c.fact 59), He.noat_ok (c.fact 60), He.noat_ok (c.fact 61)⟩
theorem mkc (c : He.SaysD fa fn K) : MkC K (He.ga K "PaperMaker") :=
  ⟨He.cls_ok (c.fact 65), He.noat_ok (c.fact 67), He.noat_ok (c.fact 68), He.noat_ok (c.fact 69), He.noat_ok (c.fact 70)⟩
theorem ent_check_deck (c : He.SaysD fa fn K) (X : K.In h) (G : h.Ns mainGlobals mg) : EntF K mg "check_deck" (top 12) := by
  obtain ⟨fd, F⟩ := c.def_ 0 (d := d_check_deck)
  exact ⟨_, fd, He5.fun_of F, He.glo_ok X G (c.fact 0)⟩
theorem ent_suit_of (c : He.SaysD fa fn K) (X : K.In h) (G : h.Ns mainGlobals mg) : EntF K mg "suit_of" (top 13) := by
  obtain ⟨fd, F⟩ := c.def_ 1 (d := d_suit_of)
  exact ⟨_, fd, He5.fun_of F, He.glo_ok X G (c.fact 1)⟩
theorem ent_cards_of (c : He.SaysD fa fn K) (X : K.In h) (G : h.Ns mainGlobals mg) : EntF K mg "cards_of" (top 14) := by
  obtain ⟨fd, F⟩ := c.def_ 2 (d := d_cards_of)
  exact ⟨_, fd, He5.fun_of F, He.glo_ok X G (c.fact 2)⟩
theorem ent_count_cards (c : He.SaysD fa fn K) (X : K.In h) (G : h.Ns mainGlobals mg) : EntF K mg "count_cards" (top 15) := by
  obtain ⟨fd, F⟩ := c.def_ 3 (d := d_count_cards)
  exact ⟨_, fd, He5.fun_of F, He.glo_ok X G (c.fact 3)⟩
theorem ent_of_suit (c : He.SaysD fa fn K) (X : K.In h) (G : h.Ns mainGlobals mg) : EntF K mg "of_suit" (top 16) := by
  obtain ⟨fd, F⟩ := c.def_ 4 (d := d_of_suit)
  exact ⟨_, fd, He5.fun_of F, He.glo_ok X G (c.fact 4)⟩
theorem ent_side_of (c : He.SaysD fa fn K) (X : K.In h) (G : h.Ns mainGlobals mg) : EntF K mg "side_of" (top 18) := by
  obtain ⟨fd, F⟩ := c.def_ 5 (d := d_side_of)
  exact ⟨_, fd, He5.fun_of F, He.glo_ok X G (c.fact 5)⟩
theorem ent_check_deal (c : He.SaysD fa fn K) (X : K.In h) (G : h.Ns mainGlobals mg) : EntF K mg "check_deal" (top 19) := by
  obtain ⟨fd, F⟩ := c.def_ 6 (d := d_check_deal)
  exact ⟨_, fd, He5.fun_of F, He.glo_ok X G (c.fact 6)⟩
theorem ent_winner_of (c : He.SaysD fa fn K) (X : K.In h) (G : h.Ns mainGlobals mg) : EntF K mg "winner_of" (top 21) := by
  obtain ⟨fd, F⟩ := c.def_ 7 (d := d_winner_of)
  exact ⟨_, fd, He5.fun_of F, He.glo_ok X G (c.fact 7)⟩
theorem ent_Play (c : He.SaysD fa fn K) (X : K.In h) (G : h.Ns mainGlobals mg) : EntC K mg (He.ga K "Play") "Play" "Play.__init__" (inClass (top 22) 0) := by
  obtain ⟨fd, F⟩ := c.def_ 8 (d := d_Play__init)
  exact ⟨_, fd, He5.fun_of F, He.mkr_ok (c.fact 28), He.glo_ok X G (c.fact 26)⟩
theorem ent_Play_begin (c : He.SaysD fa fn K) : EntM K (He.ga K "Play") "begin" "Play.begin" (inClass (top 22) 1) := by
  obtain ⟨fd, F⟩ := c.def_ 9 (d := d_Play_begin)
  exact ⟨_, fd, He5.fun_of F, He.meth_ok (c.fact 37)⟩
theorem ent_Play_deck (c : He.SaysD fa fn K) : EntM K (He.ga K "Play") "deck" "Play.deck" (inClass (top 22) 2) := by
  obtain ⟨fd, F⟩ := c.def_ 10 (d := d_Play_deck)
  exact ⟨_, fd, He5.fun_of F, He.meth_ok (c.fact 38)⟩
theorem ent_Play_is_over (c : He.SaysD fa fn K) : EntM K (He.ga K "Play") "is_over" "Play.is_over" (inClass (top 22) 7) := by
  obtain ⟨fd, F⟩ := c.def_ 11 (d := d_Play_is_over)
  exact ⟨_, fd, He5.fun_of F, He.meth_ok (c.fact 39)⟩
theorem ent_Play_mover (c : He.SaysD fa fn K) : EntM K (He.ga K "Play") "mover" "Play.mover" (inClass (top 22) 8) := by
  obtain ⟨fd, F⟩ := c.def_ 12 (d := d_Play_mover)
  exact ⟨_, fd, He5.fun_of F, He.meth_ok (c.fact 40)⟩
theorem ent_Play_turn (c : He.SaysD fa fn K) : EntM K (He.ga K "Play") "turn" "Play.turn" (inClass (top 22) 9) := by
  obtain ⟨fd, F⟩ := c.def_ 13 (d := d_Play_turn)
  exact ⟨_, fd, He5.fun_of F, He.meth_ok (c.fact 41)⟩
theorem ent_Play_legal (c : He.SaysD fa fn K) : EntM K (He.ga K "Play") "legal" "Play.legal" (inClass (top 22) 10) := by
  obtain ⟨fd, F⟩ := c.def_ 14 (d := d_Play_legal)
  exact ⟨_, fd, He5.fun_of F, He.meth_ok (c.fact 42)⟩
theorem ent_Play_put (c : He.SaysD fa fn K) : EntM K (He.ga K "Play") "put" "Play.put" (inClass (top 22) 11) := by
  obtain ⟨fd, F⟩ := c.def_ 15 (d := d_Play_put)
  exact ⟨_, fd, He5.fun_of F, He.meth_ok (c.fact 43)⟩
theorem ent_Play_take_back (c : He.SaysD fa fn K) : EntM K (He.ga K "Play") "take_back" "Play.take_back" (inClass (top 22) 12) := by
  obtain ⟨fd, F⟩ := c.def_ 16 (d := d_Play_take_back)
  exact ⟨_, fd, He5.fun_of F, He.meth_ok (c.fact 44)⟩
theorem ent_Play_tricks (c : He.SaysD fa fn K) : EntM K (He.ga K "Play") "tricks" "Play.tricks" (inClass (top 22) 14) := by
  obtain ⟨fd, F⟩ := c.def_ 17 (d := d_Play_tricks)
  exact ⟨_, fd, He5.fun_of F, He.meth_ok (c.fact 45)⟩
theorem ent_Play_left (c : He.SaysD fa fn K) : EntM K (He.ga K "Play") "left" "Play.left" (inClass (top 22) 15) := by
  obtain ⟨fd, F⟩ := c.def_ 18 (d := d_Play_left)
  exact ⟨_, fd, He5.fun_of F, He.meth_ok (c.fact 46)⟩
theorem ent_Play_position (c : He.SaysD fa fn K) : EntM K (He.ga K "Play") "position" "Play.position" (inClass (top 22) 16) := by
  obtain ⟨fd, F⟩ := c.def_ 19 (d := d_Play_position)
  exact ⟨_, fd, He5.fun_of F, He.meth_ok (c.fact 47)⟩
theorem ent_Later (c : He.SaysD fa fn K) (X : K.In h) (G : h.Ns mainGlobals mg) : EntC K mg (He.ga K "Later") "Later" "Later.__init__" (inClass (top 23) 0) := by
  obtain ⟨fd, F⟩ := c.def_ 20 (d := d_Later__init)
  exact ⟨_, fd, He5.fun_of F, He.mkr_ok (c.fact 74), He.glo_ok X G (c.fact 72)⟩
theorem ent_play_at (c : He.SaysD fa fn K) (X : K.In h) (G : h.Ns mainGlobals mg) : EntF K mg "play_at" (top 24) := by
  obtain ⟨fd, F⟩ := c.def_ 21 (d := d_play_at)
  exact ⟨_, fd, He5.fun_of F, He.glo_ok X G (c.fact 8)⟩
theorem ent_Solver (c : He.SaysD fa fn K) (X : K.In h) (G : h.Ns mainGlobals mg) : EntC K mg (He.ga K "Solver") "Solver" "Solver.__init__" (inClass (top 26) 0) := by
  obtain ⟨fd, F⟩ := c.def_ 22 (d := d_Solver__init)
  exact ⟨_, fd, He5.fun_of F, He.mkr_ok (c.fact 50), He.glo_ok X G (c.fact 48)⟩
theorem ent_Solver_share (c : He.SaysD fa fn K) : EntM K (He.ga K "Solver") "share" "Solver.share" (inClass (top 26) 1) := by
  obtain ⟨fd, F⟩ := c.def_ 23 (d := d_Solver_share)
  exact ⟨_, fd, He5.fun_of F, He.meth_ok (c.fact 53)⟩
theorem ent_Solver_after (c : He.SaysD fa fn K) : EntM K (He.ga K "Solver") "after" "Solver.after" (inClass (top 26) 2) := by
  obtain ⟨fd, F⟩ := c.def_ 24 (d := d_Solver_after)
  exact ⟨_, fd, He5.fun_of F, He.meth_ok (c.fact 54)⟩
theorem ent_share (c : He.SaysD fa fn K) (X : K.In h) (G : h.Ns mainGlobals mg) : EntF K mg "share" (top 27) := by
  obtain ⟨fd, F⟩ := c.def_ 25 (d := d_share)
  exact ⟨_, fd, He5.fun_of F, He.glo_ok X G (c.fact 9)⟩
theorem ent_shares_after (c : He.SaysD fa fn K) (X : K.In h) (G : h.Ns mainGlobals mg) : EntF K mg "shares_after" (top 28) := by
  obtain ⟨fd, F⟩ := c.def_ 26 (d := d_shares_after)
  exact ⟨_, fd, He5.fun_of F, He.glo_ok X G (c.fact 10)⟩
theorem ent_best_of (c : He.SaysD fa fn K) (X : K.In h) (G : h.Ns mainGlobals mg) : EntF K mg "best_of" (top 29) := by
  obtain ⟨fd, F⟩ := c.def_ 27 (d := d_best_of)
  exact ⟨_, fd, He5.fun_of F, He.glo_ok X G (c.fact 11)⟩
theorem ent_Checker (c : He.SaysD fa fn K) (X : K.In h) (G : h.Ns mainGlobals mg) : EntC K mg (He.ga K "Checker") "Checker" "Checker.__init__" (inClass (top 31) 0) := by
  obtain ⟨fd, F⟩ := c.def_ 28 (d := d_Checker__init)
  exact ⟨_, fd, He5.fun_of F, He.mkr_ok (c.fact 57), He.glo_ok X G (c.fact 55)⟩
theorem ent_Checker_holds (c : He.SaysD fa fn K) : EntM K (He.ga K "Checker") "holds" "Checker.holds" (inClass (top 31) 1) := by
  obtain ⟨fd, F⟩ := c.def_ 29 (d := d_Checker_holds)
  exact ⟨_, fd, He5.fun_of F, He.meth_ok (c.fact 62)⟩
theorem ent_Checker_found (c : He.SaysD fa fn K) : EntM K (He.ga K "Checker") "found" "Checker.found" (inClass (top 31) 2) := by
  obtain ⟨fd, F⟩ := c.def_ 30 (d := d_Checker_found)
  exact ⟨_, fd, He5.fun_of F, He.meth_ok (c.fact 63)⟩
theorem ent_checked (c : He.SaysD fa fn K) (X : K.In h) (G : h.Ns mainGlobals mg) : EntF K mg "checked" (top 32) := by
  obtain ⟨fd, F⟩ := c.def_ 31 (d := d_checked)
  exact ⟨_, fd, He5.fun_of F, He.glo_ok X G (c.fact 12)⟩
theorem ent_paper_holds (c : He.SaysD fa fn K) (X : K.In h) (G : h.Ns mainGlobals mg) : EntF K mg "paper_holds" (top 33) := by
  obtain ⟨fd, F⟩ := c.def_ 32 (d := d_paper_holds)
  exact ⟨_, fd, He5.fun_of F, He.glo_ok X G (c.fact 13)⟩
theorem ent_PaperMaker (c : He.SaysD fa fn K) (X : K.In h) (G : h.Ns mainGlobals mg) : EntC K mg (He.ga K "PaperMaker") "PaperMaker" "PaperMaker.__init__" (inClass (top 34) 0) := by
  obtain ⟨fd, F⟩ := c.def_ 33 (d := d_PaperMaker__init)
  exact ⟨_, fd, He5.fun_of F, He.mkr_ok (c.fact 66), He.glo_ok X G (c.fact 64)⟩
theorem ent_PaperMaker_visit (c : He.SaysD fa fn K) : EntM K (He.ga K "PaperMaker") "visit" "PaperMaker.visit" (inClass (top 34) 1) := by
  obtain ⟨fd, F⟩ := c.def_ 34 (d := d_PaperMaker_visit)
  exact ⟨_, fd, He5.fun_of F, He.meth_ok (c.fact 71)⟩
theorem ent_paper_for (c : He.SaysD fa fn K) (X : K.In h) (G : h.Ns mainGlobals mg) : EntF K mg "paper_for" (top 35) := by
  obtain ⟨fd, F⟩ := c.def_ 35 (d := d_paper_for)
  exact ⟨_, fd, He5.fun_of F, He.glo_ok X G (c.fact 14)⟩
theorem ent_law_cell (c : He.SaysD fa fn K) (X : K.In h) (G : h.Ns mainGlobals mg) : EntF K mg "_law_cell" (top 37) := by
  obtain ⟨fd, F⟩ := c.def_ 36 (d := d_law_cell)
  exact ⟨_, fd, He5.fun_of F, He.glo_ok X G (c.fact 15)⟩
theorem ent_law_numbers (c : He.SaysD fa fn K) (X : K.In h) (G : h.Ns mainGlobals mg) : EntF K mg "_law_numbers" (top 38) := by
  obtain ⟨fd, F⟩ := c.def_ 37 (d := d_law_numbers)
  exact ⟨_, fd, He5.fun_of F, He.glo_ok X G (c.fact 16)⟩
theorem ent_law_deal (c : He.SaysD fa fn K) (X : K.In h) (G : h.Ns mainGlobals mg) : EntF K mg "_law_deal" (top 39) := by
  obtain ⟨fd, F⟩ := c.def_ 38 (d := d_law_deal)
  exact ⟨_, fd, He5.fun_of F, He.glo_ok X G (c.fact 17)⟩
theorem ent_law_deck (c : He.SaysD fa fn K) (X : K.In h) (G : h.Ns mainGlobals mg) : EntF K mg "_law_deck" (top 40) := by
  obtain ⟨fd, F⟩ := c.def_ 39 (d := d_law_deck)
  exact ⟨_, fd, He5.fun_of F, He.glo_ok X G (c.fact 18)⟩
theorem ent_law_drawn (c : He.SaysD fa fn K) (X : K.In h) (G : h.Ns mainGlobals mg) : EntF K mg "_law_drawn" (top 41) := by
  obtain ⟨fd, F⟩ := c.def_ 40 (d := d_law_drawn)
  exact ⟨_, fd, He5.fun_of F, He.glo_ok X G (c.fact 19)⟩
theorem ent_law_cards (c : He.SaysD fa fn K) (X : K.In h) (G : h.Ns mainGlobals mg) : EntF K mg "_law_cards" (top 42) := by
  obtain ⟨fd, F⟩ := c.def_ 41 (d := d_law_cards)
  exact ⟨_, fd, He5.fun_of F, He.glo_ok X G (c.fact 20)⟩
theorem ent_law_legal (c : He.SaysD fa fn K) (X : K.In h) (G : h.Ns mainGlobals mg) : EntF K mg "_law_legal" (top 43) := by
  obtain ⟨fd, F⟩ := c.def_ 42 (d := d_law_legal)
  exact ⟨_, fd, He5.fun_of F, He.glo_ok X G (c.fact 21)⟩
theorem ent_law_winner (c : He.SaysD fa fn K) (X : K.In h) (G : h.Ns mainGlobals mg) : EntF K mg "_law_winner" (top 44) := by
  obtain ⟨fd, F⟩ := c.def_ 43 (d := d_law_winner)
  exact ⟨_, fd, He5.fun_of F, He.glo_ok X G (c.fact 22)⟩
theorem ent_law_next (c : He.SaysD fa fn K) (X : K.In h) (G : h.Ns mainGlobals mg) : EntF K mg "_law_next" (top 45) := by
  obtain ⟨fd, F⟩ := c.def_ 44 (d := d_law_next)
  exact ⟨_, fd, He5.fun_of F, He.glo_ok X G (c.fact 23)⟩
theorem ent_law_holds (c : He.SaysD fa fn K) (X : K.In h) (G : h.Ns mainGlobals mg) : EntF K mg "_law_holds" (top 47) := by
  obtain ⟨fd, F⟩ := c.def_ 45 (d := d_law_holds)
  exact ⟨_, fd, He5.fun_of F, He.glo_ok X G (c.fact 24)⟩
theorem ent_law (c : He.SaysD fa fn K) (X : K.In h) (G : h.Ns mainGlobals mg) : EntF K mg "law" (top 49) := by
  obtain ⟨fd, F⟩ := c.def_ 46 (d := d_law)
  exact ⟨_, fd, He5.fun_of F, He.glo_ok X G (c.fact 25)⟩
theorem ent_Later_begin (c : He.SaysD fa fn K) : EntM K (He.ga K "Later") "begin" "Play.begin" (inClass (top 22) 1) := by
  obtain ⟨fd, F⟩ := c.def_ 47 (d := dl_begin)
  exact ⟨_, fd, He5.fun_of F, He.meth_ok (c.fact 83)⟩
theorem ent_Later_deck (c : He.SaysD fa fn K) : EntM K (He.ga K "Later") "deck" "Play.deck" (inClass (top 22) 2) := by
  obtain ⟨fd, F⟩ := c.def_ 48 (d := dl_deck)
  exact ⟨_, fd, He5.fun_of F, He.meth_ok (c.fact 84)⟩
theorem ent_Later_is_over (c : He.SaysD fa fn K) : EntM K (He.ga K "Later") "is_over" "Play.is_over" (inClass (top 22) 7) := by
  obtain ⟨fd, F⟩ := c.def_ 49 (d := dl_is_over)
  exact ⟨_, fd, He5.fun_of F, He.meth_ok (c.fact 85)⟩
theorem ent_Later_mover (c : He.SaysD fa fn K) : EntM K (He.ga K "Later") "mover" "Play.mover" (inClass (top 22) 8) := by
  obtain ⟨fd, F⟩ := c.def_ 50 (d := dl_mover)
  exact ⟨_, fd, He5.fun_of F, He.meth_ok (c.fact 86)⟩
theorem ent_Later_turn (c : He.SaysD fa fn K) : EntM K (He.ga K "Later") "turn" "Play.turn" (inClass (top 22) 9) := by
  obtain ⟨fd, F⟩ := c.def_ 51 (d := dl_turn)
  exact ⟨_, fd, He5.fun_of F, He.meth_ok (c.fact 87)⟩
theorem ent_Later_legal (c : He.SaysD fa fn K) : EntM K (He.ga K "Later") "legal" "Play.legal" (inClass (top 22) 10) := by
  obtain ⟨fd, F⟩ := c.def_ 52 (d := dl_legal)
  exact ⟨_, fd, He5.fun_of F, He.meth_ok (c.fact 88)⟩
theorem ent_Later_put (c : He.SaysD fa fn K) : EntM K (He.ga K "Later") "put" "Play.put" (inClass (top 22) 11) := by
  obtain ⟨fd, F⟩ := c.def_ 53 (d := dl_put)
  exact ⟨_, fd, He5.fun_of F, He.meth_ok (c.fact 89)⟩
theorem ent_Later_take_back (c : He.SaysD fa fn K) : EntM K (He.ga K "Later") "take_back" "Play.take_back" (inClass (top 22) 12) := by
  obtain ⟨fd, F⟩ := c.def_ 54 (d := dl_take_back)
  exact ⟨_, fd, He5.fun_of F, He.meth_ok (c.fact 90)⟩
theorem ent_Later_tricks (c : He.SaysD fa fn K) : EntM K (He.ga K "Later") "tricks" "Play.tricks" (inClass (top 22) 14) := by
  obtain ⟨fd, F⟩ := c.def_ 55 (d := dl_tricks)
  exact ⟨_, fd, He5.fun_of F, He.meth_ok (c.fact 91)⟩
theorem ent_Later_left (c : He.SaysD fa fn K) : EntM K (He.ga K "Later") "left" "Play.left" (inClass (top 22) 15) := by
  obtain ⟨fd, F⟩ := c.def_ 56 (d := dl_left)
  exact ⟨_, fd, He5.fun_of F, He.meth_ok (c.fact 92)⟩
theorem ent_Later_position (c : He.SaysD fa fn K) : EntM K (He.ga K "Later") "position" "Play.position" (inClass (top 22) 16) := by
  obtain ⟨fd, F⟩ := c.def_ 57 (d := dl_position)
  exact ⟨_, fd, He5.fun_of F, He.meth_ok (c.fact 93)⟩
end
section
variable {P : Program} {w : World} {K : PySem.W.Frag} {mg : Str → Option Value} {h : Heap}
theorem playm_Play (c : He.SaysD fa fn K) (X : K.In h) (G : h.Ns mainGlobals mg) : PlayM P w K mg (He.ga K "Play") := by
  have T := txt_of c X G
  have pc := plc_Play c
  have D_cards_of := fun base => ok_cards_of (base := base) (P := P) (w := w) (ent_cards_of c X G) T
  have D_suit_of := fun base => ok_suit_of (base := base) (P := P) (w := w) (ent_suit_of c X G)
  have D_of_suit := fun base => ok_of_suit (base := base) (P := P) (w := w) (ent_of_suit c X G)
  have D_side_of := fun base => ok_side_of (base := base) (P := P) (w := w) (ent_side_of c X G)
  have D_winner_of := fun base => ok_winner_of (base := base) (P := P) (w := w) (ent_winner_of c X G) T D_suit_of
  have M_mover := fun base => ok_Play_mover (base := base) (P := P) (w := w) (ent_Play_mover c) pc T
  have M_over := fun base => ok_Play_is_over (base := base) (P := P) (w := w) (mg := mg) (ent_Play_is_over c) pc
  have M_turn := fun base => ok_Play_turn (base := base) (P := P) (w := w) (ent_Play_turn c) pc M_over M_mover
  have M_legal := fun base => ok_Play_legal (base := base) (P := P) (w := w) (ent_Play_legal c) pc T M_mover D_suit_of D_of_suit D_cards_of
  exact ⟨pc, fun base => ok_Play_deck (ent_Play_deck c) pc, M_over, M_turn, M_legal, fun base => ok_Play_put (ent_Play_put c) pc T M_turn M_legal D_winner_of D_side_of, fun base => ok_Play_take_back (ent_Play_take_back c) pc T, fun base => ok_Play_tricks (ent_Play_tricks c) pc, fun base => ok_Play_left (ent_Play_left c) pc T D_cards_of, fun base => ok_Play_position (ent_Play_position c) pc T⟩
theorem playm_Later (c : He.SaysD fa fn K) (X : K.In h) (G : h.Ns mainGlobals mg) : PlayM P w K mg (He.ga K "Later") := by
  have T := txt_of c X G
  have pc := plc_Later c
  have D_cards_of := fun base => ok_cards_of (base := base) (P := P) (w := w) (ent_cards_of c X G) T
  have D_suit_of := fun base => ok_suit_of (base := base) (P := P) (w := w) (ent_suit_of c X G)
  have D_of_suit := fun base => ok_of_suit (base := base) (P := P) (w := w) (ent_of_suit c X G)
  have D_side_of := fun base => ok_side_of (base := base) (P := P) (w := w) (ent_side_of c X G)
  have D_winner_of := fun base => ok_winner_of (base := base) (P := P) (w := w) (ent_winner_of c X G) T D_suit_of
  have M_mover := fun base => ok_Play_mover (base := base) (P := P) (w := w) (ent_Later_mover c) pc T
  have M_over := fun base => ok_Play_is_over (base := base) (P := P) (w := w) (mg := mg) (ent_Later_is_over c) pc
  have M_turn := fun base => ok_Play_turn (base := base) (P := P) (w := w) (ent_Later_turn c) pc M_over M_mover
  have M_legal := fun base => ok_Play_legal (base := base) (P := P) (w := w) (ent_Later_legal c) pc T M_mover D_suit_of D_of_suit D_cards_of
  exact ⟨pc, fun base => ok_Play_deck (ent_Later_deck c) pc, M_over, M_turn, M_legal, fun base => ok_Play_put (ent_Later_put c) pc T M_turn M_legal D_winner_of D_side_of, fun base => ok_Play_take_back (ent_Later_take_back c) pc T, fun base => ok_Play_tricks (ent_Later_tricks c) pc, fun base => ok_Play_left (ent_Later_left c) pc T D_cards_of, fun base => ok_Play_position (ent_Later_position c) pc T⟩
theorem law_body (c : He.SaysD fa fn K) (X : K.In h) (G : h.Ns mainGlobals mg) (base : Heap) :
    BodyOk P w K mg base 59 ["_law_script", "_law_drawn_here", "_law_deck_here", "_law_play", "_law_position", "_law_total", "_law_side", "_law_goal", "_law_paper_here", "_law_told", "_law_entry"] "law" (top 49) (spLaw K) := by
  have T := txt_of c X G
  have MP : PlayM P w K mg (He.ga K "Play") := playm_Play c X G
  have ML : PlayM P w K mg (He.ga K "Later") := playm_Later c X G
  have D_cards_of := fun base => ok_cards_of (base := base) (P := P) (w := w) (ent_cards_of c X G) T
  have D_side_of := fun base => ok_side_of (base := base) (P := P) (w := w) (ent_side_of c X G)
  have D_check_deck := fun base => ok_check_deck (base := base) (P := P) (w := w) (ent_check_deck c X G) T
  have D_count := fun base => ok_count_cards (base := base) (P := P) (w := w) (ent_count_cards c X G) T D_cards_of
  have D_check_deal := fun base => ok_check_deal (base := base) (P := P) (w := w) (ent_check_deal c X G) T D_check_deck D_count
  have MP_begin := fun base => ok_Play_begin (base := base) (P := P) (w := w) (mg := mg) (ent_Play_begin c) (plc_Play c) T
  have ML_begin := fun base => ok_Play_begin (base := base) (P := P) (w := w) (mg := mg) (ent_Later_begin c) (plc_Later c) T
  have N_Play := fun base => ok_Play_init (base := base) (P := P) (w := w) (ent_Play c X G) (plc_Play c) T MP_begin D_check_deal
  have N_Later := fun base => ok_Later_init (base := base) (P := P) (w := w) (ent_Later c X G) (plc_Later c) ML_begin
  have D_play_at := fun base => ok_play_at (base := base) (P := P) (w := w) (ent_play_at c X G) N_Later
  have N_Solver := fun base => ok_Solver_init (base := base) (P := P) (w := w) (ent_Solver c X G) (soc c)
  have SA := solver_all (P := P) (w := w) (mg := mg) (ent_Solver_share c) (ent_Solver_after c) (soc c) ML T D_side_of
  have D_share := fun base => ok_share (base := base) (P := P) (w := w) (ent_share c X G) (soc c) ML MP D_play_at N_Solver (fun n => (SA n).2)
  have D_after := fun n base => ok_shares_after (n := n) (base := base) (P := P) (w := w) (ent_shares_after c X G) T (soc c) ML D_side_of D_play_at (fun n => (SA n).1)
  have D_best := fun base => ok_best_of (base := base) (P := P) (w := w) (ent_best_of c X G) T
  have N_Checker := fun base => ok_Checker_init (base := base) (P := P) (w := w) (ent_Checker c X G) (ckc c)
  have CA := checker_all (P := P) (w := w) (mg := mg) (ent_Checker_holds c) (ent_Checker_found c) T (ckc c) ML D_side_of
  have D_checked := fun base => ok_checked (base := base) (P := P) (w := w) (ent_checked c X G) T (ckc c) MP D_play_at N_Checker CA
  have D_paper_holds := fun base => ok_paper_holds (base := base) (P := P) (w := w) (ent_paper_holds c X G) D_checked
  have N_Maker := fun base => ok_PaperMaker_init (base := base) (P := P) (w := w) (ent_PaperMaker c X G) (mkc c) N_Solver
  have VA := maker_all (P := P) (w := w) (mg := mg) (ent_PaperMaker_visit c) T (mkc c) ML D_side_of D_best D_after
  have D_paper_for := fun base => ok_paper_for (base := base) (P := P) (w := w) (ent_paper_for c X G) T (mkc c) MP D_play_at N_Maker VA
  have D_cell := fun base => ok_law_cell (base := base) (P := P) (w := w) (ent_law_cell c X G) T
  have D_numbers := fun base => ok_law_numbers (base := base) (P := P) (w := w) (ent_law_numbers c X G) T
  have D_deck := fun base => ok_law_deck (base := base) (P := P) (w := w) (ent_law_deck c X G) T
  have D_deal := fun base => ok_law_deal (base := base) (P := P) (w := w) (ent_law_deal c X G) T
  have D_drawn := fun base => ok_law_drawn (base := base) (P := P) (w := w) (ent_law_drawn c X G) T MP D_cell D_deck D_numbers D_deal N_Play
  have D_cards := fun base => ok_law_cards (base := base) (P := P) (w := w) (ent_law_cards c X G) T
  have D_legal := fun base => ok_law_legal (base := base) (P := P) (w := w) (ent_law_legal c X G) T D_cards
  have D_winner := fun base => ok_law_winner (base := base) (P := P) (w := w) (ent_law_winner c X G) T
  have D_next := fun base => ok_law_next (base := base) (P := P) (w := w) (ent_law_next c X G) T D_winner
  have D_holds := fun base => law_holds_u (base := base) (P := P) (w := w) (ent_law_holds c X G) T D_legal D_next
  exact body_law T MP D_drawn D_share D_paper_for D_paper_holds D_holds
end
theorem len_law {K : PySem.W.Frag} (vs : List V) (H : Hp) (Q : VK) (E : XK) (h : spLaw K vs H Q E) : vs.length = (["_law_script"] : List Str).length := by
  obtain ⟨a, ns, rfl, _⟩ := h; rfl
/-- what the head asks -/
theorem ff (P : Program) (K : PySem.W.Frag) (c : He.SaysD fa fn K) (w : World) (mg : Str → Option Value) (fa' : Addr) (h : Heap) (X : K.In h) (G : h.Ns mainGlobals mg) (hmg : mg "law" = some (.ref fa')) :
    ∃ (fd : FuncData) (sp : L2.Sp), (∀ (s : Shared) (v : Value), BindsTo s fd ⟨[v], []⟩ [("_law_script", v)]) ∧ (∀ (H : L2.Hp) (a : Addr) (ns : List Int), ns.length ≤ 63 → L2.SqL K H a (ns.map L2.V.int) → sp [.ref a] H (fun v _ => v = .bl true) fun _ _ _ => False) ∧
     ∀ base : Heap, K.In base → base.Ns mainGlobals mg → L2.FnOk P w K mg base L2.CX0 60 fa' fd ["_law_script"] sp := by
  obtain ⟨fd, F0⟩ := c.def_ 46 (d := d_law)
  have F : Fun K "law" "law" (top 49) (He.ga K "law") fd := He5.fun_of F0
  have e : mg "law" = _ := He.glo_ok X G (c.fact 25)
  rw [hmg] at e
  injection e with e
  injection e with e
  subst e
  refine ⟨fd, spLaw K, fun s v => ?_, fun H a ns hl hs => ⟨a, ns, rfl, ⟨hs, hl⟩, fun _ => rfl⟩, fun base _ _ => F.ok sc_law len_law (law_body c X G base _)⟩
  obtain ⟨oc, od, kV, doc, pm, an, cdv, ct, osl, efd, _⟩ := F.ex
  subst efd
  exact BindsTo.of_eq rfl
end Fi
namespace Fi
open PySem PySem.Spec PyProof.Rows L2
set_option maxHeartbeats 0
abbrev R : PySem.W.OpenRow := PySem.W.OpenLaw.row PySem.Challenge.rw_finesse_k34_whole_papers_show_the_share
abbrev hk : PySem.W.Hook := He.hookD 6 fa fn
def ob (s : PySem.W.SharedT) : He.AlD := He.obsDG 6 fa fn (HandSHeadRun.getT s)
theorem ob_eq (s : PySem.W.SharedT) : ob s = hk.obs s.abs := He.obsDG_eq (HandSHeadRun.getT_eq s)
theorem run (w : World) : HandSHeadRun.RunEq R (PySem.W.view R.prog [49]) hk ob 6000 lo w := by
  intro os
  kernel_rfl
end Fi
open PySem PySem.W PySem.Calls PyProof.Rows
theorem PySem.Challenge.cw_finesse_k34_whole_papers_show_the_share_holds : PySem.Challenge.rw_finesse_k34_whole_papers_show_the_share.Holds := by
  w_on; o_law
  refine HandSHeadRun.head_any (r := OpenLaw.row PySem.Challenge.rw_finesse_k34_whole_papers_show_the_share) (q := view (OpenLaw.row PySem.Challenge.rw_finesse_k34_whole_papers_show_the_share).prog [49]) (H := Fi.hk) (ob := Fi.ob) (M := 6000) (loose := Fi.lo) (d := HandSHeadRun.topDef (OpenLaw.row PySem.Challenge.rw_finesse_k34_whole_papers_show_the_share).prog 49) (kwd := []) Fi.ob_eq
    (by kernel_rfl) (fun s => by kernel_rfl) Fi.run (by kernel_rfl) (by kernel_rfl) (by kernel_rfl) (by rfl) (by first | assumption | decide +kernel) (by decide +kernel) ⟨rfl, rfl, rfl, rfl, rfl, by decide +kernel⟩ ?hw ?hc
  case hw => w_witness2
  case hc =>
    refine L2.walk_ofE (l := PySem.Challenge.rw_finesse_k34_whole_papers_show_the_share) (n := 63) (k := 60) (x := "_law_script") (CX := L2.CX0) rfl (by decide) (by kernel_rfl) ⟨rfl, by decide, by decide⟩ ?F (fun _ _ _ _ z => z)
    intro w mg fa h Y G hmg0
    obtain ⟨K, KX, c⟩ := Y
    have hmg : mg ("law" : PySem.Str) = some (.ref fa) := by
      have e : (HandSHeadRun.topDef (OpenLaw.row PySem.Challenge.rw_finesse_k34_whole_papers_show_the_share).prog 49).name = ("law" : PySem.Str) := by kernel_rfl
      rw [← e]
      exact hmg0
    obtain ⟨fd, sp, hb, hs, hF⟩ := Fi.ff (PySem.Challenge.rw_finesse_k34_whole_papers_show_the_share).prog K c w mg fa h KX G hmg
    exact ⟨K, fd, sp, KX, hb, fun H a ns hl _ hS => hs H a ns hl hS, hF⟩
